import PyProof.Rows.All
import Wide.All
import OpenK.AllK
import Wide.FinOn
import HandS.ForMost
import HandS.ForExc
import HandS.WordsDict
import HandS.More
import HandS.Sort
import HandS.DictComp
import HandS.ListItems
import HandS.DictEq
import HandS.Flow
import HandS.Wide
import HandS.TryOnly
import HandS.ExcOwn
import HandS.AnyAll
import HandS.GenList
import HandS.EndBits
import HandS.Lambda
import HandS.EndTab
import PyProof.TupleOfGen
import KE.DataMinMax
import KE.LtData
import PySem.Challenge.RW_repostack_k08_files_that_are_staged
import HandS.Text
import HandS.Style
import HandS.TupAny
import HandS.Iter
import HandS.Small
import HandS.HeadHook4
import HandS.HeadWalk
import HandS.Head0
import HandS.Head1
import HandS.Head2
section Text_Gx
set_option Elab.async false
set_option linter.all false
set_option maxRecDepth 100000
set_option maxHeartbeats 2000000
/-! Gx: any and all of a generator expression whose element may call defs and change the heap. -/
namespace Gx
open PySem PySem.Spec PyProof.Rows L2 GxR

/-- the state may differ in generators, tokens and draws -/
structure Like (s s' : Shared) : Prop where
  heap : s'.heap = s.heap
  os : s'.os = s.os
  bare : AllBare s'.gens
theorem Like.inv {X : Cx} {pins : List (Addr × Obj)} {σ : L2.St} {H : Hp} {s s' : Shared} (l : Like s s') (I : Inv X pins σ H s) : Inv X pins σ H s' := by
  obtain ⟨h', g', d', t', o'⟩ := s'
  have e1 : h' = s.heap := l.heap
  have e2 : o' = s.os := l.os
  subst e1
  subst e2
  exact I.step (g' := g') (d' := d') (t' := t') (ch := []) (fun b hb => absurd hb (by simp)) (fun _ _ _ _ _ e _ => e) (fun _ o _ _ _ e _ => ⟨o.slots, e⟩)
    (fun _ _ _ _ n => n) (fun _ o _ e => ⟨o, e⟩) (fun _ _ e => e) (fun _ _ _ e => e) (fun _ _ e => ⟨#[], by rw [e]; simp⟩) (fun _ hn => hn) I.hok l.bare

/-- the generator's own frame, as a context: begun at s (before the frame was laid), the walked thing's objects at fp; ga: the generator's object, pinned -/
abbrev gCx (X : Cx) (s : Shared) (H : Hp) (A : Around) (env : Env) (fp : List Addr) (pn : List (Addr × Obj)) : Cx :=
  { X with A := A, s_0 := s, H_0 := H, env := env, outer := X.stack, stack := env :: X.stack, ex := fp, fn := fun _ => false, calm := true, pn := pn, xe := fun _ _ => False }

/-- the names of a generator expression: own ones with their places, or captured -/
structure GOk (N : List Str) (sc scope : Scope) (own : List (Str × Nat)) : Prop where
  kind : scope.kind = .function
  co : scope.isCoroutine = false
  uniq : ∀ y ∈ scope.names, scope.names.lookup y.1 = some y.2
  cell : ∀ y ∈ scope.names, y.2 ≠ .cell
  dot : scope.names.lookup (".0" : Str) = some NameKind.local
  ix : ∀ p ∈ own, N[p.2]? = some p.1
  free : ∀ y ∈ scope.names, y.2 = .free → sc.names.lookup y.1 = some .cell ∨ sc.names.lookup y.1 = some .free
  own : ∀ y ∈ scope.names, y.2 = .local → y.1 ∈ own.map (·.1) ∨ y.1 ∉ N

def gOkB (N : List Str) (sc scope : Scope) (own : List (Str × Nat)) : Bool :=
  decide (scope.kind = .function) && !scope.isCoroutine && (scope.names.all fun y => decide (scope.names.lookup y.1 = some y.2)) && (scope.names.all fun y => !decide (y.2 = .cell)) &&
  decide (scope.names.lookup (".0" : Str) = some NameKind.local) && (own.all fun p => decide (N[p.2]? = some p.1)) &&
  (scope.names.all fun y => !decide (y.2 = .free) || decide (sc.names.lookup y.1 = some .cell) || decide (sc.names.lookup y.1 = some .free)) &&
  (scope.names.all fun y => !decide (y.2 = .local) || decide (y.1 ∈ own.map (·.1)) || !decide (y.1 ∈ N))
theorem gOk_by {N : List Str} {sc scope : Scope} {own : List (Str × Nat)} (h : gOkB N sc scope own = true) : GOk N sc scope own := by
  unfold gOkB at h
  simp only [Bool.and_eq_true, Bool.or_eq_true, Bool.not_eq_true', decide_eq_true_eq, decide_eq_false_iff_not, List.all_eq_true] at h
  obtain ⟨⟨⟨⟨⟨⟨⟨h1, h2⟩, h3⟩, h4⟩, h5⟩, h6⟩, h7⟩, h8⟩ := h
  refine ⟨h1, h2, h3, h4, h5, h6, fun y hy e => ?_, fun y hy e => ?_⟩
  · rcases h7 y hy with (z | z) | z
    · exact absurd e z
    · exact .inl z
    · exact .inr z
  · rcases h8 y hy with (z | z) | z
    · exact absurd e z
    · exact .inl z
    · exact .inr z

section
variable {X : Cx} {pins : List (Addr × Obj)} {σ : L2.St} {H : Hp} {s : Shared}

/-- the captured cells of the frame -/
theorem clo_look {names : List (Str × NameKind)} (hf : ∀ y ∈ names, y.2 = .free → ∃ c, X.env.cells.lookup y.1 = some c) {y : Str} {c : Addr} (e : (cloFrom X.env.cells names []).lookup y = some c) : X.env.cells.lookup y = some c := by
  rcases cloFrom_mem (PySem.mem_of_lookup e) with hm | ⟨h1, h2⟩
  · cases hm
  · obtain ⟨c1, hc⟩ := hf _ h1 rfl
    have hc : X.env.cells.lookup y = some c1 := hc
    rw [hc] at h2
    rw [hc]
    exact congrArg some h2.symm
theorem clo_has {names : List (Str × NameKind)} {y : Str} (hl : names.lookup y = some .free) : ∃ c, (cloFrom X.env.cells names []).lookup y = some c :=
  mem_lookup (cloFrom_has (cells := X.env.cells) (acc := []) (PySem.mem_of_lookup hl))

/-- the generator's context holds at its start -/
theorem g_start {scope : Scope} {own : List (Str × Nat)} {fp : List Addr} {A : Around} {code : Value} {it : Value} {ga : Addr} {gobj : Obj} {h5 : Heap} {g5 : Array GenState} {d5 : Drawn} {t5 : Nat}
    (I : Inv X pins σ H s) (ok : GOk X.N X.env.scope scope own) (hN : X.N.Nodup) (hd : A.handled = none)
    (hA : A.frames = some (genEnv scope (cloFrom X.env.cells scope.names []) s.heap.objs.size code builtinsNs X.env :: X.stack))
    (hfp : ∀ b ∈ fp, FpOk X pins H b ∧ b < s.heap.objs.size)
    (keep : ∀ b o, s.heap.get? b = some o → h5.get? b = some o)
    (hns : h5.Ns s.heap.objs.size (fun y => if y = ".0" then some it else none))
    (hga : s.heap.objs.size < ga) (hgo : h5.get? ga = some gobj) (hgc : ∀ v, gobj.data ≠ .cell v) (hb : AllBare g5) :
    Inv (gCx X s H A (genEnv scope (cloFrom X.env.cells scope.names []) s.heap.objs.size code builtinsNs X.env) fp [(ga, gobj)]) [] (wipe σ (own.map (·.2))) H
      { s with heap := h5, gens := g5, drawn := d5, toks := t5 } := by
  have hfree : ∀ y ∈ scope.names, y.2 = .free → ∃ c, X.env.cells.lookup y.1 = some c := fun y hy e => by
    rcases ok.free y hy e with k | k
    · exact I.ok.has _ (.inl k)
    · exact I.ok.has _ (.inr k)
  have cm : ∀ {y c}, (cloFrom X.env.cells scope.names []).lookup y = some c → X.env.cells.lookup y = some c := fun {y c} e => clo_look hfree e
  have clt : ∀ {y c}, (cloFrom X.env.cells scope.names []).lookup y = some c → c < s.heap.objs.size := fun {y c} e => by
    obtain ⟨v, z⟩ := I.cell y c (cm e)
    exact z.lt
  have okG : (gCx X s H A (genEnv scope (cloFrom X.env.cells scope.names []) s.heap.objs.size code builtinsNs X.env) fp [(ga, gobj)]).Ok := by
    refine ⟨I.ok.mod, ok.kind, I.ok.glob, rfl, Nat.le_refl _, fun y z c e1 e2 => I.ok.inj y z c (cm e1) (cm e2), fun y hy => ?_, fun y c z _ => ?_, fun _ => hd, hA, .inr ⟨rfl, rfl⟩,
      fun b hb => ⟨Nat.ne_of_lt (hfp b hb).2, fun y c e z => ?_⟩, I.bs, Nat.le_trans I.ok.bsz I.sz, fun b o e hb => ?_, fun b hb z => ?_, I.stack, I.stkFree⟩
    · have hy : scope.names.lookup y = some .cell ∨ scope.names.lookup y = some .free := hy
      rcases hy with hy | hy
      · exact absurd rfl (ok.cell _ (PySem.mem_of_lookup hy))
      · exact clo_has hy
    · have z : false = true := z
      cases z
    · exact (hfp b hb).1.2.2.2.2.1 y c (cm e) z
    · rcases (hfp b hb).1.2.2.2.1 with z | z
      · exact I.ok.noex b o e z
      · exact absurd (Nat.lt_of_lt_of_le (Heap.lt_size e) (Nat.le_trans I.ok.bsz z)) (Nat.lt_irrefl _)
    · rcases List.mem_cons.mp (I.stkSub b z) with z | z
      · exact (hfp b hb).1.2.1 z
      · exact (hfp b hb).1.2.2.1 z
  refine ⟨okG, rfl, hb, Un.kept keep, ⟨_, hns, fun i y av e1 e2 e3 => ?_⟩, fun y c e => ?_, I.hok.fresh (Nat.le_refl _), fun y c e => ?_, fun p hp => ?_, I.hok.kept keep, by rw [wipe_length]; exact I.len⟩
  · obtain ⟨e2, hne⟩ := wipe_some e2
    have e3 : Vis scope y := e3
    have fr : scope.names.lookup y = some .free := by
      rcases e3 with k | k | k
      · rcases ok.own _ (PySem.mem_of_lookup k) rfl with e' | e'
        · obtain ⟨p, hp, hpy⟩ := List.mem_map.mp e'
          have e4 := ok.ix p hp
          have e5 : p.1 = y := hpy
          rw [e5] at e4
          exact absurd (List.mem_map.mpr ⟨p, hp, nodup_ix hN e4 e1⟩) hne
        · exact absurd (List.mem_of_getElem? e1) e'
      · exact absurd rfl (ok.cell _ (PySem.mem_of_lookup k))
      · exact k
    obtain ⟨m, hn, hl⟩ := I.loc
    have vis : Vis X.env.scope y := (ok.free _ (PySem.mem_of_lookup fr) rfl).elim (fun k => .inr (.inl k)) (fun k => .inr (.inr k))
    obtain ⟨w, r, q⟩ := hl i y av e1 e2 vis
    obtain ⟨c, hc⟩ := clo_has (X := X) fr
    refine ⟨w, r, .inr ⟨.inr fr, c, hc, ?_⟩⟩
    have hc' := cm hc
    rcases q with ⟨k, _⟩ | ⟨_, c', e', z⟩
    · have k : X.env.scope.names.lookup y = some .local := k
      rcases ok.free _ (PySem.mem_of_lookup fr) rfl with k' | k' <;> rw [show X.env.scope.names.lookup y = _ from k'] at k <;> cases k
    · rw [hc'] at e'
      cases e'
      exact z.keeps keep
  · obtain ⟨v, z⟩ := I.cell y c (cm e)
    exact ⟨v, z.keeps keep⟩
  · exact I.freeC y c (cm e)
  · have hp' : p ∈ [(ga, gobj)] := by simpa using hp
    rw [List.mem_singleton.mp hp']
    refine ⟨hgo, I.hok.fresh (Nat.le_of_lt hga), Nat.ne_of_gt hga, fun z => ?_, hgc⟩
    obtain ⟨_, o, ho, _⟩ := I.stack.mem z
    have h2 := I.stkFree
    rcases List.mem_cons.mp (I.stkSub ga z) with z | z
    · have := I.lt
      rw [← z] at this
      exact absurd (Nat.lt_trans hga this) (Nat.lt_irrefl _)
    · exact I.nofs (Nat.le_of_lt hga) z
end
end Gx
end Text_Gx
section Text_Gy
set_option Elab.async false
set_option linter.all false
set_option maxRecDepth 100000
set_option maxHeartbeats 2000000
namespace Gx
open PySem PySem.Spec PyProof.Rows L2 GxR

/-- the end of the walk: nothing is left -/
def REx (Z : Cx) (Q : VK) (neg : Bool) : GenEnd := fun _ _ r s₁ => r = .ok .next ∧ ∃ σ' H', Inv Z [] σ' H' s₁ ∧ Q (.bl neg) H'
/-- a truth value is handed out: the walk goes on, or is left -/
def YEx (Z : Cx) (Q : VK) (neg : Bool) : Protocol := fun _ _ v s₁ kap => ∃ c ps σ' H', v = .bool c ∧ Inv Z ps σ' H' s₁ ∧ (c = neg → ∀ s', Like s₁ s' → kap (.send .none) s') ∧ (c ≠ neg → Q (.bl (!neg)) H')

/-- a turn: nothing is left, or the next item's test -/
def TurnG (J : It) (g : TG) (tt : TT) (te : TE) (vs : List Nat) (σ0 : L2.St) (Q : VK) (neg : Bool) (W : Nat → Nat → Hp → Prop) : Prop :=
  ∀ i m H, W i m H → (J.stop i H ∧ Q (.bl neg) H) ∨ (J.go i H ∧ ∃ Nx : Hp → Prop, (∀ H', Nx H' → ∃ m', m' < m ∧ W (i + 1) m' H') ∧
    ∀ x H', J.yld i H x H' → g x σ0 H' fun σ2 H2 => wipe σ2 vs = σ0 ∧ tt σ2 H2 fun b H3 => if b = true then te σ2 H3 fun y H4 => ∃ c, y = .bl c ∧ (if c = neg then Nx H4 else Q (.bl (!neg)) H4) else Nx H3)

section
variable {Z : Cx}
theorem seg_turns {A : Around} {elt tg iter : Expr} {ifs : List Expr} {scope : Scope} {pos : Pos} {it : Addr} {fp : List Addr} {tn : Nat → Heap → Prop} {J : It} {g : TG} {tt : TT} {te : TE} {vs : List Nat} {σ0 : L2.St} {Q : VK} {neg : Bool}
    {W : Nat → Nat → Hp → Prop} (hA : A.over (.compLoop (.GeneratorExp elt [⟨tg, iter, ifs, 0⟩] scope pos) 0 (.ref it) .none Z.env) [] = Z.A) (hx : Z.xe = fun _ _ => False) (hco : Z.env.scope.isCoroutine = false) (hcalm : Z.calm = true) (hex : Z.ex = fp)
    (hpn : ∀ p ∈ Z.pn, ∀ b ∈ fp, p.1 ≠ b) (T : Turn Z.prog Z.w Z.K tg J fp it tn) (pg : PG Z tg g) (pt : PTs Z ifs tt) (pe : PE Z elt te) (hW : TurnG J g tt te vs σ0 Q neg W) :
    ∀ (m n i : Nat) (s₀ s : Shared) (H : Hp), m + 1 ≤ n → Inv Z [] σ0 H s → tn i s.heap → (∀ b ∈ fp, H b = none) → W i m H →
      Seg (model Z.prog Z.w) A (REx Z Q neg) (YEx Z Q neg) n s₀ (.compLoop (.GeneratorExp elt [⟨tg, iter, ifs, 0⟩] scope pos) 0 (.ref it) .none Z.env)
        ((model Z.prog Z.w).den (.compLoop (.GeneratorExp elt [⟨tg, iter, ifs, 0⟩] scope pos) 0 (.ref it) .none Z.env)) [] s := by
  have stat : ∀ {σ' : L2.St} {H' : Hp} {s' : Shared}, Inv Z [] σ' H' s' → (∀ b ∈ fp, H' b = none) → ∀ b ∈ fp, FpOk Z [] H' b := fun {σ' H' s'} I hn b hb => by
    have hb' : b ∈ Z.ex := by rw [hex]; exact hb
    refine ⟨hn b hb, (I.ok.exf b hb').1, I.ok.exfs b hb', .inl hb', (I.ok.exf b hb').2, fun p hp => hpn p ?_ b hb⟩
    simpa using hp
  intro m
  induction m using Nat.strongRecOn with
  | ind m ih =>
    intro n i s₀ s H hmn I st nf w
    obtain ⟨n, rfl⟩ : ∃ k, n = k + 1 := ⟨n - 1, by omega⟩
    show Seg _ A _ _ _ s₀ _ ((compTurn (.GeneratorExp elt [⟨tg, iter, ifs, 0⟩] scope pos) 0 (.ref it) .none Z.env).onRaise (leaving Z.env)) [] s
    rw [compTurn_gen, Sem.onRaise_eq_wrap]
    refine seg_bind_wrap (wpAny_standAt ?_)
    rcases hW i m H w with ⟨stop, qq⟩ | ⟨go, Nx, hNx, step⟩
    · have td := T.done Z rfl rfl rfl hcalm i [] s σ0 H (fun _ _ => False) I (stat I nf) st stop
      refine seg_bind_wrap ?_
      rw [hA]
      refine thnF td fun r s1 hr => ?_
      obtain ⟨hr, I1⟩ := hr
      subst hr
      exact seg_end (.ok .next) ⟨rfl, σ0, H, I1, qq⟩
    · have ti := T.item Z rfl rfl rfl hcalm i [] s σ0 H (fun _ _ => False) I (stat I nf) st go
      refine seg_bind_wrap ?_
      rw [hA]
      refine thnF ti fun r s1 hr => ?_
      obtain ⟨u, hr, h1⟩ := hr
      subst hr
      refine seg_bind_wrap ?_
      rw [hA]
      refine thnF h1 fun _ s2 h2 => ?_
      obtain ⟨x, H2, I2, r2, y2, st2, n2⟩ := h2
      have I2' := I2.pinned (stat I2 n2) (T.obj _ _ st2)
      refine seg_bind_wrap ?_
      rw [hA]
      have h3 := pg.run _ s2 _ H2 x u _ I2' r2 (step x H2 y2)
      rw [hx] at h3
      refine thnF h3 fun _ s3 q3 => ?_
      obtain ⟨σ3, H3, I3, hw3, q3⟩ := q3
      refine seg_bind_wrap ?_
      rw [hA]
      have h4 := pt.run _ s3 σ3 H3 _ I3 q3
      rw [hx] at h4
      refine thnF h4 fun b s4 q4 => ?_
      obtain ⟨H4, I4, q4⟩ := q4
      -- a turn's end
      have hl : σ0.length = σ3.length := by rw [← hw3, wipe_length]
      have hk : ∀ (j : Nat) v, σ0[j]? = some (some v) → σ3[j]? = some (some v) := fun j v e => by
        rw [← hw3] at e
        exact (wipe_some e).1
      have fin : ∀ {k : Nat} {s₀' s' : Shared} {H' : Hp}, m ≤ k → Inv Z ([] ++ pinsAt fp s2.heap) σ3 H' s' → Nx H' →
          Seg (model Z.prog Z.w) A (REx Z Q neg) (YEx Z Q neg) k s₀' (.compLoop (.GeneratorExp elt [⟨tg, iter, ifs, 0⟩] scope pos) 0 (.ref it) .none Z.env) ((model Z.prog Z.w).den (.compLoop (.GeneratorExp elt [⟨tg, iter, ifs, 0⟩] scope pos) 0 (.ref it) .none Z.env)) [] s' := fun {k s₀' s' H'} hk' I' nx => by
        obtain ⟨m', hm, w'⟩ := hNx H' nx
        have pin' : ∀ b ∈ fp, ∀ o, s2.heap.get? b = some o → s'.heap.get? b = some o ∧ H' b = none := fun b hb o e =>
          let z := I'.pin (b, o) (List.mem_append_right _ (List.mem_append_right _ (mem_pinsAt hb e)))
          ⟨z.1, z.2.1⟩
        refine ih m' hm k (i + 1) s₀' s' H' (by omega) ((I'.unpinned (pins := [])).weak hl hk) (T.keep _ _ _ st2 fun b hb o e => (pin' b hb o e).1) (fun b hb => ?_) w'
        obtain ⟨o, e, _⟩ := T.obj _ _ st2 b hb
        exact (pin' b hb o e).2
      cases b with
      | false =>
        simp only [Bool.false_eq_true, if_false] at q4 ⊢
        exact seg_again rfl (fin (by omega) I4 q4)
      | true =>
        simp only [if_true] at q4 ⊢
        have hy : ∀ v, yieldOut Z.env v = yieldValue v := fun v => by simp only [yieldOut, hco, Bool.false_eq_true, if_false]
        simp only [hy]
        rw [Sem.bind_eq_wrap', Sem.bind_eq_wrap', Sem.wrap_wrap, Sem.wrap_wrap]
        refine seg_wrap ?_
        rw [hA]
        have h5 := pe.run _ s4 σ3 H4 _ I4 q4
        rw [hx] at h5
        refine thnF h5 fun v s5 q5 => ?_
        obtain ⟨yv, H5, I5, r5, c, ey, q5⟩ := q5
        subst ey
        obtain rfl : v = Value.bool c := r5
        refine seg_at (seg_yield rfl rfl rfl ⟨c, _, σ3, H5, rfl, I5, fun hc s' hl' => ?_, fun hc => ?_⟩)
        · rw [if_pos hc] at q5
          exact seg_again rfl (fin (by omega) (hl'.inv I5) q5)
        · rw [if_neg hc] at q5
          exact q5
end
end Gx
end Text_Gy
section Text_Gz
set_option Elab.async false
set_option linter.all false
set_option maxRecDepth 100000
set_option maxHeartbeats 4000000
namespace Gx
open PySem PySem.Spec PyProof.Rows L2 GxR

theorem over_loop {A : Around} {elt tg iter : Expr} {ifs : List Expr} {scope : Scope} {pos : Pos} {it : Value} {env : Env} : A.over (.compLoop (.GeneratorExp elt [⟨tg, iter, ifs, 0⟩] scope pos) 0 it .none env) [] = A.deeper env := by rfl
theorem over_start {A : Around} {elt tg iter : Expr} {ifs : List Expr} {scope : Scope} {pos : Pos} {it : Value} {env : Env} : A.over (.compStart (.GeneratorExp elt [⟨tg, iter, ifs, 0⟩] scope pos) 0 it .none env) [] = A.deeper env := by rfl
theorem Room.g {k : Nat} {A : Around} (r : Room (k + 1) A) (env : Env) : Room k (A.in1.in1.deeper env) :=
  ⟨r.hd, by have := r.dp; show A.depth + 1 + 3 * k + 5 < _; omega, by have := r.un; show A.units + 1 + 1 + 3 + 16 * k + 200 < _; omega⟩

section
variable {Z : Cx}
theorem seg_first {A : Around} {elt tg iter : Expr} {ifs : List Expr} {scope : Scope} {pos : Pos} {it : Addr} {fp : List Addr} {tn : Nat → Heap → Prop} {J : It} {g : TG} {tt : TT} {te : TE} {vs : List Nat} {σ0 : L2.St} {Q : VK} {neg : Bool}
    {W : Nat → Nat → Hp → Prop} (hA : A.deeper Z.env = Z.A) (hx : Z.xe = fun _ _ => False) (hco : Z.env.scope.isCoroutine = false) (hcalm : Z.calm = true) (hex : Z.ex = fp)
    (hpn : ∀ p ∈ Z.pn, ∀ b ∈ fp, p.1 ≠ b) (T : Turn Z.prog Z.w Z.K tg J fp it tn) (pg : PG Z tg g) (pt : PTs Z ifs tt) (pe : PE Z elt te) (hW : TurnG J g tt te vs σ0 Q neg W)
    (m n : Nat) (s₀ s : Shared) (H : Hp) (hm : m + 1 ≤ n) (I : Inv Z [] σ0 H s) (st : tn 0 s.heap) (nf : ∀ b ∈ fp, H b = none) (w : W 0 m H) :
      Seg (model Z.prog Z.w) A (REx Z Q neg) (YEx Z Q neg) n s₀ (.compStart (.GeneratorExp elt [⟨tg, iter, ifs, 0⟩] scope pos) 0 (.ref it) .none Z.env)
        ((model Z.prog Z.w).den (.compStart (.GeneratorExp elt [⟨tg, iter, ifs, 0⟩] scope pos) 0 (.ref it) .none Z.env)) [] s := by
  have loop := fun s₀ => seg_turns (A := A) (pos := pos) (scope := scope) (iter := iter) (over_loop.trans hA) hx hco hcalm hex hpn T pg pt pe hW m n 0 s₀ s H hm I st nf w
  show Seg _ A _ _ _ s₀ _ ((compStart (.GeneratorExp elt [⟨tg, iter, ifs, 0⟩] scope pos) 0 (.ref it) .none Z.env).onRaise (leaving Z.env)) [] s
  unfold compStart
  rw [Sem.onRaise_eq_wrap]
  show Seg _ A _ _ _ s₀ _ ((ask >>= _).wrap _ _ _ _) [] s
  refine seg_bind_wrap (wpAny_askSetting ?_)
  split
  · exact seg_again rfl (loop s₀)
  · first
      | exact seg_bind_wrap (wpAny_rule (seg_bind_wrap (wpAny_standAt (seg_bind_wrap (T.self _ 0 s _ _ st (seg_again rfl (loop s₀)))))))
      | (refine seg_bind_wrap (wpAny_rule ?_); show Seg _ A _ _ _ s₀ _ ((standAt iter.pos >>= _).wrap _ _ _ _) [] s; exact seg_bind_wrap (wpAny_standAt (seg_bind_wrap (T.self _ 0 s _ _ st (seg_again rfl (loop s₀))))))

theorem like_setGen {s : Shared} {g : Nat} {x : GenState} (hb : AllBare s.gens) (hx : x.bare = true) : Like s (s.setGen g x) := ⟨rfl, rfl, allBare_setGen hb hx⟩
theorem like_trans {s s1 s2 : Shared} (a : Like s s1) (b : Like s1 s2) : Like s s2 := ⟨b.heap.trans a.heap, b.os.trans a.os, b.bare⟩

/-- any's loop over a generator of ours -/
theorem any_turns {A : Around} {R : Result → Shared → Prop} {ga : Addr} {g : Nat} {Q : VK} (hh : A.handled = none) (hd : A.depth < recursionLimit)
    (hG : ∀ {ps σ' H'} {s' : Shared}, Inv Z ps σ' H' s' → s'.heap.IsGen ga g)
    (hR : ∀ (b : Bool) ps σ' H' s', Inv Z ps σ' H' s' → Q (.bl b) H' → R (.ok (.ret (.bool b))) s') :
    ∀ (n : Nat) (s : Shared), s.heap.IsGen ga g → s.heap.NoLimit →
      (∃ gs, s.gens[g]? = some gs ∧ gs.Goes (model Z.prog Z.w) A.in1.in1 (REx Z Q false) (YEx Z Q false) n (.send .none) (s.setGen g .running)) →
      codeAny (model Z.prog Z.w) A (.builtin "any.loop" ⟨[.ref ga], []⟩) R s := by
  intro n
  induction n with
  | zero =>
    intro s hg hl hgo
    obtain ⟨gs, hgs, hgo⟩ := hgo
    refine codeAny_builtin F.entry_any_loop ?_
    rw [Around.under_plainId F.plain_any_loop _]
    show wpAny _ A.in1 (pyNext (.ref ga) >>= _) _ _ s
    refine wpAny_bind (wpAny_pyNext_genexpQ (A := A.in1) (P := fun _ _ s₁ => ∃ σ' H', Inv Z [] σ' H' s₁ ∧ Q (.bl false) H') hh hl hd hg hgs hgo (fun v s₁ gs' hb hv => ?_) (fun s₁ hp h' hk => ?_))
    · obtain ⟨c, ps, σ', H', rfl, I, h1, h2⟩ := hv
      cases c with
      | false => exact (h1 rfl s₁ ⟨rfl, rfl, I.bare⟩).elim
      | true =>
        refine wpAny_bind (wpAny_holding (wpAny_truthy_bool (wpAny_bind (wpAny_letGo ?_))))
        simp only [if_true]
        refine wpAny_bind (wpAny_rule (wpAny_pure ?_))
        exact hR true ps σ' H' _ ((like_setGen I.bare hb).inv I) (h2 (by decide))
    · obtain ⟨σ', H', I, q⟩ := hp
      refine wpAny_bind (wpAny_rule (wpAny_pure ?_))
      exact hR false [] σ' H' _ (((like_setGen (g := g) (x := .finished) I.bare rfl).inv I).kept (t' := s₁.toks) hk) q
  | succ n ih =>
    intro s hg hl hgo
    obtain ⟨gs, hgs, hgo⟩ := hgo
    have hgl : g < s.gens.size := (Array.getElem?_eq_some_iff.mp hgs).1
    refine codeAny_builtin F.entry_any_loop ?_
    rw [Around.under_plainId F.plain_any_loop _]
    show wpAny _ A.in1 (pyNext (.ref ga) >>= _) _ _ s
    refine wpAny_bind (GenW.wpAny_gsz (n := g + 1) hgl (wpAny_pyNext_genexpQ (A := A.in1) (P := fun _ _ s₁ => ∃ σ' H', Inv Z [] σ' H' s₁ ∧ Q (.bl false) H') hh hl hd hg hgs hgo (fun v s₁ gs' hb hv hsz => ?_) (fun s₁ hp h' hk hsz => ?_)))
    · obtain ⟨c, ps, σ', H', rfl, I, h1, h2⟩ := hv
      have L1 := like_setGen (g := g) I.bare hb
      have I1 := L1.inv I
      refine wpAny_bind (wpAny_holding (wpAny_truthy_bool (wpAny_bind (wpAny_letGo ?_))))
      cases c with
      | false =>
        simp only [Bool.false_eq_true, if_false]
        have hsz1 : g < s₁.gens.size := by
          have q : (s₁.setGen g gs').gens.size = s₁.gens.size := GenW.setGen_size _ _ _
          have hsz' : g + 1 ≤ (s₁.setGen g gs').gens.size := hsz
          omega
        refine wpAny_pure ⟨plainId_quiet F.plain_any_loop _, ih _ (hG I1) I1.nolimit ⟨gs', setGen_at hsz1, ?_⟩⟩
        exact h1 rfl _ (like_trans L1 (like_setGen L1.bare rfl))
      | true =>
        simp only [if_true]
        refine wpAny_bind (wpAny_rule (wpAny_pure ?_))
        exact hR true ps σ' H' _ I1 (h2 (by decide))
    · obtain ⟨σ', H', I, q⟩ := hp
      refine wpAny_bind (wpAny_rule (wpAny_pure ?_))
      exact hR false [] σ' H' _ (((like_setGen (g := g) (x := .finished) I.bare rfl).inv I).kept (t' := s₁.toks) hk) q

/-- all's loop over a generator of ours -/
theorem all_turns {A : Around} {R : Result → Shared → Prop} {ga : Addr} {g : Nat} {Q : VK} (hh : A.handled = none) (hd : A.depth < recursionLimit)
    (hG : ∀ {ps σ' H'} {s' : Shared}, Inv Z ps σ' H' s' → s'.heap.IsGen ga g)
    (hR : ∀ (b : Bool) ps σ' H' s', Inv Z ps σ' H' s' → Q (.bl b) H' → R (.ok (.ret (.bool b))) s') :
    ∀ (n : Nat) (s : Shared), s.heap.IsGen ga g → s.heap.NoLimit →
      (∃ gs, s.gens[g]? = some gs ∧ gs.Goes (model Z.prog Z.w) A.in1.in1 (REx Z Q true) (YEx Z Q true) n (.send .none) (s.setGen g .running)) →
      codeAny (model Z.prog Z.w) A (.builtin "all.loop" ⟨[.ref ga], []⟩) R s := by
  intro n
  induction n with
  | zero =>
    intro s hg hl hgo
    obtain ⟨gs, hgs, hgo⟩ := hgo
    refine codeAny_builtin F.entry_all_loop ?_
    rw [Around.under_plainId F.plain_all_loop _]
    show wpAny _ A.in1 (pyNext (.ref ga) >>= _) _ _ s
    refine wpAny_bind (wpAny_pyNext_genexpQ (A := A.in1) (P := fun _ _ s₁ => ∃ σ' H', Inv Z [] σ' H' s₁ ∧ Q (.bl true) H') hh hl hd hg hgs hgo (fun v s₁ gs' hb hv => ?_) (fun s₁ hp h' hk => ?_))
    · obtain ⟨c, ps, σ', H', rfl, I, h1, h2⟩ := hv
      cases c with
      | true => exact (h1 rfl s₁ ⟨rfl, rfl, I.bare⟩).elim
      | false =>
        refine wpAny_bind (wpAny_holding (wpAny_truthy_bool (wpAny_bind (wpAny_letGo ?_))))
        simp only [Bool.false_eq_true, if_false]
        refine wpAny_bind (wpAny_rule (wpAny_pure ?_))
        exact hR false ps σ' H' _ ((like_setGen I.bare hb).inv I) (h2 (by decide))
    · obtain ⟨σ', H', I, q⟩ := hp
      refine wpAny_bind (wpAny_rule (wpAny_pure ?_))
      exact hR true [] σ' H' _ (((like_setGen (g := g) (x := .finished) I.bare rfl).inv I).kept (t' := s₁.toks) hk) q
  | succ n ih =>
    intro s hg hl hgo
    obtain ⟨gs, hgs, hgo⟩ := hgo
    have hgl : g < s.gens.size := (Array.getElem?_eq_some_iff.mp hgs).1
    refine codeAny_builtin F.entry_all_loop ?_
    rw [Around.under_plainId F.plain_all_loop _]
    show wpAny _ A.in1 (pyNext (.ref ga) >>= _) _ _ s
    refine wpAny_bind (GenW.wpAny_gsz (n := g + 1) hgl (wpAny_pyNext_genexpQ (A := A.in1) (P := fun _ _ s₁ => ∃ σ' H', Inv Z [] σ' H' s₁ ∧ Q (.bl true) H') hh hl hd hg hgs hgo (fun v s₁ gs' hb hv hsz => ?_) (fun s₁ hp h' hk hsz => ?_)))
    · obtain ⟨c, ps, σ', H', rfl, I, h1, h2⟩ := hv
      have L1 := like_setGen (g := g) I.bare hb
      have I1 := L1.inv I
      refine wpAny_bind (wpAny_holding (wpAny_truthy_bool (wpAny_bind (wpAny_letGo ?_))))
      cases c with
      | true =>
        simp only [if_true]
        have hsz1 : g < s₁.gens.size := by
          have q : (s₁.setGen g gs').gens.size = s₁.gens.size := GenW.setGen_size _ _ _
          have hsz' : g + 1 ≤ (s₁.setGen g gs').gens.size := hsz
          omega
        refine wpAny_pure ⟨plainId_quiet F.plain_all_loop _, ih _ (hG I1) I1.nolimit ⟨gs', setGen_at hsz1, ?_⟩⟩
        exact h1 rfl _ (like_trans L1 (like_setGen L1.bare rfl))
      | false =>
        simp only [Bool.false_eq_true, if_false]
        refine wpAny_bind (wpAny_rule (wpAny_pure ?_))
        exact hR false ps σ' H' _ I1 (h2 (by decide))
    · obtain ⟨σ', H', I, q⟩ := hp
      refine wpAny_bind (wpAny_rule (wpAny_pure ?_))
      exact hR true [] σ' H' _ (((like_setGen (g := g) (x := .finished) I.bare rfl).inv I).kept (t' := s₁.toks) hk) q
end
end Gx
end Text_Gz
section Text_Ga
set_option Elab.async false
set_option linter.all false
set_option maxRecDepth 100000
set_option maxHeartbeats 4000000
namespace Gx
open PySem PySem.Spec PyProof.Rows L2 GxR

/-- any, all of a generator expression: wi what is walked; P the running def's table of code objects, which may grow -/
def tGen (P : Addr) (neg : Bool) (wi : TI) (g : TG) (tt : TT) (te : TE) (vs : List Nat) : TE := fun σ H Q => wi σ H fun J H1 => TabG H1 P ∧ ∀ H2, Tabbed P H1 H2 →
  ∃ W : Nat → Nat → Hp → Prop, (∃ m, W 0 m H2) ∧ TurnG J g tt te vs (wipe σ vs) Q neg W

section
variable {X : Cx} {pins : List (Addr × Obj)} {σ : L2.St} {H : Hp} {s : Shared}
/-- the generator is made; then Q' of it -/
theorem gen_made {c P : Addr} {neg : Bool} {elt tg iter : Expr} {ifs : List Expr} {scope : Scope} {own : List (Str × Nat)} {pos : Pos} {wi : TI} {g : TG} {tt : TT} {te : TE} {k : Nat} {Q : VK} {Q' : Value → Shared → Prop}
    (hr : Room (k + 1) X.A) (TB : TabB X.base X.mg c P) (hcode : X.env.code = .ref c) (hN : X.N.Nodup) (ok : GOk X.N X.env.scope scope own) (hi : PI X tg iter wi)
    (hg : ∀ (s : Shared) (H : Hp) (C : Addr) (cd : Value) (fp : List Addr) (pn : List (Addr × Obj)), PG (gCx X s H (X.A.in1.in1.deeper (genEnv scope (cloFrom X.env.cells scope.names []) C cd builtinsNs X.env)) (genEnv scope (cloFrom X.env.cells scope.names []) C cd builtinsNs X.env) fp pn) tg g)
    (ht : ∀ (s : Shared) (H : Hp) (C : Addr) (cd : Value) (fp : List Addr) (pn : List (Addr × Obj)), Room k (X.A.in1.in1.deeper (genEnv scope (cloFrom X.env.cells scope.names []) C cd builtinsNs X.env)) → PTs (gCx X s H (X.A.in1.in1.deeper (genEnv scope (cloFrom X.env.cells scope.names []) C cd builtinsNs X.env)) (genEnv scope (cloFrom X.env.cells scope.names []) C cd builtinsNs X.env) fp pn) ifs tt)
    (he : ∀ (s : Shared) (H : Hp) (C : Addr) (cd : Value) (fp : List Addr) (pn : List (Addr × Obj)), Room k (X.A.in1.in1.deeper (genEnv scope (cloFrom X.env.cells scope.names []) C cd builtinsNs X.env)) → PE (gCx X s H (X.A.in1.in1.deeper (genEnv scope (cloFrom X.env.cells scope.names []) C cd builtinsNs X.env)) (genEnv scope (cloFrom X.env.cells scope.names []) C cd builtinsNs X.env) fp pn) elt te)
    (hs : ∀ v, genFold iter X.env v = pure v) (I : Inv X pins σ H s) (h : tGen P neg wi g tt te (own.map (·.2)) σ H Q)
    (hQ : ∀ (Z : Cx) (ga : Addr) (gn n : Nat) (cd : Code) (s5 : Shared), Z.prog = X.prog → Z.w = X.w → s5.heap.IsGen ga gn → s5.heap.NoLimit → s5.gens[gn]? = some (.fresh cd) → AllBare s5.gens →
      (∀ {ps σ' H'} {s' : Shared}, Inv Z ps σ' H' s' → s'.heap.IsGen ga gn) → (∀ {ps σ' H'} {s' : Shared}, Inv Z ps σ' H' s' → Inv X pins σ H' s') →
      (∀ s6, Like s5 s6 → (GenState.fresh cd).Goes (model Z.prog Z.w) X.A.in1.in1 (REx Z Q neg) (YEx Z Q neg) n (.send .none) s6) → Q' (.ref ga) s5) :
    wpAny (model X.prog X.w) X.A (eval (.GeneratorExp elt [⟨tg, iter, ifs, 0⟩] scope pos) X.env) Q' X.xe s := by
  have hfree : ∀ y ∈ scope.names, y.2 = .free → ∃ c, X.env.cells.lookup y.1 = some c := fun y hy e => by
    rcases ok.free y hy e with q | q
    · exact I.ok.has _ (.inl q)
    · exact I.ok.has _ (.inr q)
  refine wpAny_GeneratorExp_make ok.co (closure_ok hfree) ok.cell ok.dot ok.kind (by have := hr.dp; omega) ?_ hs
  refine thn (hi.run pins s σ H _ I h) fun xv s1 hx => thn hx fun itv s2 h2 => ?_
  obtain ⟨it, fp, tn, J, H2, e, I2, T, st2, f2, ⟨ps, hP, hok⟩, hq⟩ := h2
  subst e
  have hPs : s2.heap.get? P = some { cls := .none, data := .fields ps } := I2.hok P _ hP
  have cd2 : PySem.W.CodeHd s2.heap c P := TB.code.keeps fun b u e => I2.bk b u e
  refine ⟨I2.nolimit, ?_⟩
  -- behind the making of the code object
  have cont : ∀ (code : Value) (s4 : Shared) (H4 : Hp), Inv X pins σ H4 s4 → Tabbed P H2 H4 → tn 0 s4.heap → (∀ b ∈ fp, FpOk X pins H4 b) →
      wpAny (model X.prog X.w) X.A (builtinsFor X.env.globals X.env.builtins) (fun bi s₄ => ∀ h', h'.Ns s₄.heap.objs.size (fun y => if y = ".0" then some (.ref it) else none) →
          Heap.SameBut s₄.heap.objs.size (s₄.heap.push { cls := .type "frame", data := .dict #[] }) h' →
          Q' (.ref h'.objs.size) { s₄ with gens := s₄.gens.push (.fresh (.compStart (.GeneratorExp elt [⟨tg, iter, ifs, 0⟩] scope pos) 0 (.ref it) .none (genEnv scope (cloFrom X.env.cells scope.names []) s₄.heap.objs.size code bi X.env))), toks := s₄.toks + 1 + 1 + 1, heap := h'.push { cls := .type "generator", data := .fields #[.int s₄.gens.size 0, .str "<genexpr>" (s₄.toks + 1), .str (X.env.qual ++ "<genexpr>") (s₄.toks + 1 + 1)] } }) X.xe s4 := by
    intro code s4 H4 I4 hT4 st4 f4
    obtain ⟨bm, ob, e1, e2, e3, e4, e5, e6, e7, e8⟩ := TB.bm
    have hbmP : bm ≠ P := e4
    refine wpAny_builtinsFor (m := X.mg) (by rw [I4.ok.glob]; exact I4.mod.glob.keeps I4.bk) e1 e2 (I4.bk _ _ e5) e6 e7 e8 ?_
    intro h' hn' hs'
    generalize hgobj : ({ cls := .type "generator", data := .fields #[.int s4.gens.size 0, .str "<genexpr>" (s4.toks + 1), .str (X.env.qual ++ "<genexpr>") (s4.toks + 1 + 1)] } : Obj) = gobj
    have hsz : h'.objs.size = s4.heap.objs.size + 1 := by rw [hs'.1, Heap.size_push]
    have k5 : ∀ b o, s4.heap.get? b = some o → (h'.push gobj).get? b = some o := fun b o e =>
      Heap.get?_push_of_some _ (hs'.extBut b o (Nat.ne_of_lt (Heap.lt_size e)) (Heap.get?_push_of_some _ e))
    have hfp4 : ∀ b ∈ fp, FpOk X pins H4 b ∧ b < s4.heap.objs.size := fun b hb => by
      obtain ⟨o, e, _⟩ := T.obj _ _ st4 b hb
      exact ⟨f4 b hb, Heap.lt_size e⟩
    have hgo : (h'.push gobj).get? h'.objs.size = some gobj := Heap.get?_push_size _ (by rw [← hgobj]; rfl)
    have hgc : ∀ v, gobj.data ≠ .cell v := fun v z => by
      rw [← hgobj] at z
      cases z
    have hb5 : AllBare (s4.gens.push (.fresh (.compStart (.GeneratorExp elt [⟨tg, iter, ifs, 0⟩] scope pos) 0 (.ref it) .none (genEnv scope (cloFrom X.env.cells scope.names []) s4.heap.objs.size code builtinsNs X.env)))) := I4.bare.push rfl
    have hga : s4.heap.objs.size < h'.objs.size := by omega
    have J0 := g_start (A := X.A.in1.in1.deeper (genEnv scope (cloFrom X.env.cells scope.names []) s4.heap.objs.size code builtinsNs X.env)) (d5 := s4.drawn) (t5 := s4.toks + 1 + 1 + 1) I4 ok hN hr.hd
      (Around.frames_deeper (by exact I4.ok.frames)) hfp4 k5 (hn'.push _) hga hgo hgc hb5
    obtain ⟨W, ⟨m0, w0⟩, hW⟩ := hq H4 hT4
    have isg : ∀ {ps σ' H'} {s' : Shared}, Inv (gCx X s4 H4 (X.A.in1.in1.deeper (genEnv scope (cloFrom X.env.cells scope.names []) s4.heap.objs.size code builtinsNs X.env)) (genEnv scope (cloFrom X.env.cells scope.names []) s4.heap.objs.size code builtinsNs X.env) fp [(h'.objs.size, gobj)]) ps σ' H' s' → s'.heap.IsGen h'.objs.size s4.gens.size := fun {ps σ' H' s'} J => by
      have e := (J.pin (h'.objs.size, gobj) (List.mem_append_left _ List.mem_cons_self)).1
      exact ⟨gobj, _, _, e, by rw [← hgobj], by rw [← hgobj], by rw [← hgobj]⟩
    refine hQ (gCx X s4 H4 (X.A.in1.in1.deeper (genEnv scope (cloFrom X.env.cells scope.names []) s4.heap.objs.size code builtinsNs X.env)) (genEnv scope (cloFrom X.env.cells scope.names []) s4.heap.objs.size code builtinsNs X.env) fp [(h'.objs.size, gobj)]) h'.objs.size s4.gens.size (m0 + 1) _ _ rfl rfl (isg J0) J0.nolimit (Array.getElem?_push_size ..) hb5 isg (fun {ps σ' H' s'} J => ?_) (fun s6 l6 => ⟨rfl, ?_⟩)
    · exact I4.call' (ch := fp) J.os J.base J.hok J.bare fun b hb => ⟨(f4 b hb).2.2.2.1, (f4 b hb).2.1, (f4 b hb).2.2.2.2.1, (f4 b hb).2.2.2.2.2⟩
    · refine seg_first (A := X.A.in1.in1) (m := m0) rfl rfl ok.co rfl rfl (fun p hp b hb => ?_) T (hg _ _ _ _ _ _) (ht _ _ _ _ _ _ (Room.g hr _)) (he _ _ _ _ _ _ (Room.g hr _)) hW (m0 + 1) s6 s6 H4 (Nat.le_refl _) (l6.inv J0) ?_ (fun b hb => (f4 b hb).1) w0
      · rw [List.mem_singleton.mp hp]
        exact Nat.ne_of_gt (Nat.lt_trans (hfp4 b hb).2 hga)
      · have e6 := l6.heap
        rw [e6]
        exact T.keep _ _ _ st4 fun b hb o e => k5 b o e
  cases hf : codeAmong pos ps.toList with
  | some cv =>
    refine wpAny_genexprCode_hit hcode (cd2.code hPs hok) hf ?_
    exact cont cv s2 H2 I2 ⟨⟨ps, hP, hok⟩, fun _ _ => rfl⟩ st2 f2
  | none =>
    refine wpAny_genexprCodeX hcode (cd2.code hPs hok) (cd2.tab hPs) hf fun c' h' tk hx2 hge hlt hco' _ htab' _ => ?_
    obtain ⟨o1, vs1, g1, tf, fl, tg1, inF, tx, tt1, op, _, _, _, _, _, _, _, _, _, htr, _⟩ := hco'
    have I3 := inv_tab (more := #[rawInt pos.line, rawInt pos.col, .ref c']) (g' := s2.gens) (d' := s2.drawn) (t' := tk) I2 hP (fun b o hb e => hx2 b o hb e) htab'.2 I2.bare
    have nP : ∀ b ∈ fp, b ≠ P := fun b hb z => by
      have e := (f2 b hb).1
      rw [z, hP] at e
      cases e
    refine cont (.ref c') _ _ I3 ⟨⟨_, upd_same, htr⟩, fun b hb => upd_ne hb⟩ (T.keep _ _ _ st2 fun b hb o e => hx2 b o (nP b hb) e) fun b hb => ?_
    obtain ⟨z0, z1, z2, z3, z4, z5⟩ := f2 b hb
    exact ⟨by rw [upd_ne (nP b hb)]; exact z0, z1, z2, z3, z4, z5⟩

theorem pe_anyG {c P : Addr} {elt tg iter : Expr} {ifs : List Expr} {scope : Scope} {own : List (Str × Nat)} {pos gpos p : Pos} {wi : TI} {g : TG} {tt : TT} {te : TE} {k : Nat}
    (hr : Room (k + 1) X.A) (hgl : Gl X "any") (hm : X.mg "any" = none) (TB : TabB X.base X.mg c P) (hcode : X.env.code = .ref c) (hN : X.N.Nodup) (ok : GOk X.N X.env.scope scope own) (hi : PI X tg iter wi)
    (hg : ∀ (s : Shared) (H : Hp) (C : Addr) (cd : Value) (fp : List Addr) (pn : List (Addr × Obj)), PG (gCx X s H (X.A.in1.in1.deeper (genEnv scope (cloFrom X.env.cells scope.names []) C cd builtinsNs X.env)) (genEnv scope (cloFrom X.env.cells scope.names []) C cd builtinsNs X.env) fp pn) tg g)
    (ht : ∀ (s : Shared) (H : Hp) (C : Addr) (cd : Value) (fp : List Addr) (pn : List (Addr × Obj)), Room k (X.A.in1.in1.deeper (genEnv scope (cloFrom X.env.cells scope.names []) C cd builtinsNs X.env)) → PTs (gCx X s H (X.A.in1.in1.deeper (genEnv scope (cloFrom X.env.cells scope.names []) C cd builtinsNs X.env)) (genEnv scope (cloFrom X.env.cells scope.names []) C cd builtinsNs X.env) fp pn) ifs tt)
    (he : ∀ (s : Shared) (H : Hp) (C : Addr) (cd : Value) (fp : List Addr) (pn : List (Addr × Obj)), Room k (X.A.in1.in1.deeper (genEnv scope (cloFrom X.env.cells scope.names []) C cd builtinsNs X.env)) → PE (gCx X s H (X.A.in1.in1.deeper (genEnv scope (cloFrom X.env.cells scope.names []) C cd builtinsNs X.env)) (genEnv scope (cloFrom X.env.cells scope.names []) C cd builtinsNs X.env) fp pn) elt te)
    (hs : ∀ v, genFold iter X.env v = pure v := by intro _; rfl)
    (hst : starEach [.GeneratorExp elt [⟨tg, iter, ifs, 0⟩] scope gpos] X.env = (false, eval (.GeneratorExp elt [⟨tg, iter, ifs, 0⟩] scope gpos) X.env) :: starEach [] X.env := by rfl) :
    PE X (.Call (.Name "any" p) [.GeneratorExp elt [⟨tg, iter, ifs, 0⟩] scope gpos] [] pos) (tGen P false wi g tt te (own.map (·.2))) := by
  refine ⟨fun pins s σ H Q I h => ?_⟩
  refine wpAny_Call_Name_kw (ld_blt I hgl hm boot_any ?_)
  refine PyProof.Rows.callWith_builtin1 ?_ hst (by rfl)
  rw [hst]
  show wpAny _ _ (spliced ((false, eval (.GeneratorExp elt [⟨tg, iter, ifs, 0⟩] scope gpos) X.env) :: backTo pos (starEach [] X.env))) _ _ s
  refine Calls.spliced_cons (gen_made hr TB hcode hN ok hi hg ht he hs I h fun Z ga gn n cd s5 hp hw isg lim hgs hb hI back go => ?_)
  refine Calls.spliced_nil ?_
  refine call_function_tree F.kind_any F.plain_any F.entry_any (F.args_any1 _) ?_
  unfold Builtin.«any»
  refine wpAny_bind (m := oneArg "any" _) (wpAny_pure ?_)
  refine wpAny_bind (wpAny_pyIter_gen isg ?_)
  rw [← hp, ← hw] at *
  refine wpAny_pure ⟨plainId_quiet F.plain_any_loop _, ?_⟩
  refine any_turns (Z := Z) (A := X.A) (Q := Q) hr.hd (by have := hr.dp; omega) hI (fun b ps σ' H' s' J q => ?_) n s5 isg lim ⟨_, hgs, go _ (like_setGen hb rfl)⟩
  exact ⟨.bl b, H', back J, rfl, q⟩
theorem pe_allG {c P : Addr} {elt tg iter : Expr} {ifs : List Expr} {scope : Scope} {own : List (Str × Nat)} {pos gpos p : Pos} {wi : TI} {g : TG} {tt : TT} {te : TE} {k : Nat}
    (hr : Room (k + 1) X.A) (hgl : Gl X "all") (hm : X.mg "all" = none) (TB : TabB X.base X.mg c P) (hcode : X.env.code = .ref c) (hN : X.N.Nodup) (ok : GOk X.N X.env.scope scope own) (hi : PI X tg iter wi)
    (hg : ∀ (s : Shared) (H : Hp) (C : Addr) (cd : Value) (fp : List Addr) (pn : List (Addr × Obj)), PG (gCx X s H (X.A.in1.in1.deeper (genEnv scope (cloFrom X.env.cells scope.names []) C cd builtinsNs X.env)) (genEnv scope (cloFrom X.env.cells scope.names []) C cd builtinsNs X.env) fp pn) tg g)
    (ht : ∀ (s : Shared) (H : Hp) (C : Addr) (cd : Value) (fp : List Addr) (pn : List (Addr × Obj)), Room k (X.A.in1.in1.deeper (genEnv scope (cloFrom X.env.cells scope.names []) C cd builtinsNs X.env)) → PTs (gCx X s H (X.A.in1.in1.deeper (genEnv scope (cloFrom X.env.cells scope.names []) C cd builtinsNs X.env)) (genEnv scope (cloFrom X.env.cells scope.names []) C cd builtinsNs X.env) fp pn) ifs tt)
    (he : ∀ (s : Shared) (H : Hp) (C : Addr) (cd : Value) (fp : List Addr) (pn : List (Addr × Obj)), Room k (X.A.in1.in1.deeper (genEnv scope (cloFrom X.env.cells scope.names []) C cd builtinsNs X.env)) → PE (gCx X s H (X.A.in1.in1.deeper (genEnv scope (cloFrom X.env.cells scope.names []) C cd builtinsNs X.env)) (genEnv scope (cloFrom X.env.cells scope.names []) C cd builtinsNs X.env) fp pn) elt te)
    (hs : ∀ v, genFold iter X.env v = pure v := by intro _; rfl)
    (hst : starEach [.GeneratorExp elt [⟨tg, iter, ifs, 0⟩] scope gpos] X.env = (false, eval (.GeneratorExp elt [⟨tg, iter, ifs, 0⟩] scope gpos) X.env) :: starEach [] X.env := by rfl) :
    PE X (.Call (.Name "all" p) [.GeneratorExp elt [⟨tg, iter, ifs, 0⟩] scope gpos] [] pos) (tGen P true wi g tt te (own.map (·.2))) := by
  refine ⟨fun pins s σ H Q I h => ?_⟩
  refine wpAny_Call_Name_kw (ld_blt I hgl hm boot_all ?_)
  refine PyProof.Rows.callWith_builtin1 ?_ hst (by rfl)
  rw [hst]
  show wpAny _ _ (spliced ((false, eval (.GeneratorExp elt [⟨tg, iter, ifs, 0⟩] scope gpos) X.env) :: backTo pos (starEach [] X.env))) _ _ s
  refine Calls.spliced_cons (gen_made hr TB hcode hN ok hi hg ht he hs I h fun Z ga gn n cd s5 hp hw isg lim hgs hb hI back go => ?_)
  refine Calls.spliced_nil ?_
  refine call_function_tree F.kind_all F.plain_all F.entry_all (F.args_all1 _) ?_
  unfold Builtin.«all»
  refine wpAny_bind (m := oneArg "all" _) (wpAny_pure ?_)
  refine wpAny_bind (wpAny_pyIter_gen isg ?_)
  rw [← hp, ← hw] at *
  refine wpAny_pure ⟨plainId_quiet F.plain_all_loop _, ?_⟩
  refine all_turns (Z := Z) (A := X.A) (Q := Q) hr.hd (by have := hr.dp; omega) hI (fun b ps σ' H' s' J q => ?_) n s5 isg lim ⟨_, hgs, go _ (like_setGen hb rfl)⟩
  exact ⟨.bl b, H', back J, rfl, q⟩
end
end Gx
end Text_Ga
section Text_Gb
set_option Elab.async false
set_option linter.all false
set_option maxRecDepth 100000
set_option maxHeartbeats 4000000
namespace Gx
open PySem PySem.Spec PyProof.Rows L2 GxR
/-- n turns, with what holds ahead of each -/
theorem turns_of {J : It} {g : TG} {te : TE} {vs : List Nat} {σ0 : L2.St} {Q : VK} {neg : Bool} {H : Hp} (n : Nat) (Pv : Nat → Hp → Prop) (h0 : Pv 0 H) (hs : ∀ H, Pv n H → J.stop n H ∧ Q (.bl neg) H)
    (hg : ∀ i H, i < n → Pv i H → J.go i H ∧ ∀ x H', J.yld i H x H' → g x σ0 H' fun σ2 H2 => wipe σ2 vs = σ0 ∧ te σ2 H2 fun y H4 => ∃ c, y = .bl c ∧ (if c = neg then Pv (i + 1) H4 else Q (.bl (!neg)) H4)) :
    ∃ W : Nat → Nat → Hp → Prop, (∃ m, W 0 m H) ∧ TurnG J g tYes te vs σ0 Q neg W := by
  refine ⟨fun i m H => i + m = n ∧ Pv i H, ⟨n, Nat.zero_add n, h0⟩, fun i m H w => ?_⟩
  obtain ⟨e, p⟩ := w
  rcases Nat.lt_or_ge i n with hi | hi
  · obtain ⟨a, b⟩ := hg i H hi p
    refine .inr ⟨a, Pv (i + 1), fun H' p' => ⟨m - 1, by omega, by omega, p'⟩, fun x H' y => ?_⟩
    have q := b x H' y
    show g x σ0 H' fun σ2 H2 => wipe σ2 vs = σ0 ∧ (if true = true then te σ2 H2 fun y H4 => ∃ c, y = .bl c ∧ (if c = neg then Pv (i + 1) H4 else Q (.bl (!neg)) H4) else Pv (i + 1) H2)
    simp only [if_true]
    exact q
  · have e2 : i = n := by omega
    subst e2
    exact .inl (hs H p)
theorem wipe_one {σ : L2.St} {i : Nat} {v : Option V} : wipe ((wipe σ [i]).set i v) [i] = wipe σ [i] := by
  show ((σ.set i none).set i v).set i none = σ.set i none
  rw [List.set_set, List.set_set]
/-- any over a text's signs, the test a Bool function of the sign -/
theorem any_text {z : Str} {i : Nat} {te : TE} {σ : L2.St} {Q : VK} {H : Hp} (pb : Nat → Bool) (hte : ∀ c (Q' : VK), Q' (.bl (pb c)) H → te ((wipe σ [i]).set i (some (.str ⟨#[c]⟩))) H Q') (h : Q (.bl (z.cps.toList.any pb)) H) :
    ∃ W : Nat → Nat → Hp → Prop, (∃ m, W 0 m H) ∧ TurnG (Its z) (gName i) tYes te [i] (wipe σ [i]) Q false W := by
  refine turns_of z.cps.size (fun j H' => H' = H ∧ ∀ k c, k < j → z.cps[k]? = some c → pb c = false) ⟨rfl, fun k c hk => absurd hk (Nat.not_lt_zero k)⟩ (fun H' p => ⟨Nat.le_refl _, ?_⟩) fun j H' hj p => ⟨hj, fun x H2 y => ?_⟩
  · obtain ⟨rfl, p⟩ := p
    have e : z.cps.toList.any pb = false := by
      rw [List.any_eq_false]
      intro c hc
      obtain ⟨k, hk, e⟩ := List.getElem_of_mem hc
      have hk' : k < z.cps.size := by simpa using hk
      rw [p k c hk' (by rw [Array.getElem?_eq_getElem hk']; simpa using e)]
      decide
    rw [e] at h
    exact h
  · obtain ⟨rfl, p⟩ := p
    obtain ⟨rfl, c, hc, rfl⟩ := y
    refine ⟨wipe_one, hte c _ ⟨pb c, rfl, ?_⟩⟩
    cases hb : pb c with
    | false =>
      rw [if_pos rfl]
      refine ⟨rfl, fun k d hk hd => ?_⟩
      rcases Nat.lt_or_ge k j with q | q
      · exact p k d q hd
      · have e : k = j := by omega
        rw [e, hc] at hd
        cases hd
        exact hb
    | true =>
      have e : z.cps.toList.any pb = true := List.any_eq_true.mpr ⟨c, by
        have hl := (Array.getElem?_eq_some_iff.mp hc)
        obtain ⟨hl, e⟩ := hl
        rw [← e]
        simp, hb⟩
      rw [e] at h
      exact h
/-- all over a text's signs -/
theorem all_text {z : Str} {i : Nat} {te : TE} {σ : L2.St} {Q : VK} {H : Hp} (pb : Nat → Bool) (hte : ∀ c (Q' : VK), Q' (.bl (pb c)) H → te ((wipe σ [i]).set i (some (.str ⟨#[c]⟩))) H Q') (h : Q (.bl (z.cps.toList.all pb)) H) :
    ∃ W : Nat → Nat → Hp → Prop, (∃ m, W 0 m H) ∧ TurnG (Its z) (gName i) tYes te [i] (wipe σ [i]) Q true W := by
  refine turns_of z.cps.size (fun j H' => H' = H ∧ ∀ k c, k < j → z.cps[k]? = some c → pb c = true) ⟨rfl, fun k c hk => absurd hk (Nat.not_lt_zero k)⟩ (fun H' p => ⟨Nat.le_refl _, ?_⟩) fun j H' hj p => ⟨hj, fun x H2 y => ?_⟩
  · obtain ⟨rfl, p⟩ := p
    have e : z.cps.toList.all pb = true := by
      rw [List.all_eq_true]
      intro c hc
      obtain ⟨k, hk, e⟩ := List.getElem_of_mem hc
      have hk' : k < z.cps.size := by simpa using hk
      exact p k c hk' (by rw [Array.getElem?_eq_getElem hk']; simpa using e)
    rw [e] at h
    exact h
  · obtain ⟨rfl, p⟩ := p
    obtain ⟨rfl, c, hc, rfl⟩ := y
    refine ⟨wipe_one, hte c _ ⟨pb c, rfl, ?_⟩⟩
    cases hb : pb c with
    | true =>
      rw [if_pos rfl]
      refine ⟨rfl, fun k d hk hd => ?_⟩
      rcases Nat.lt_or_ge k j with q | q
      · exact p k d q hd
      · have e : k = j := by omega
        rw [e, hc] at hd
        cases hd
        exact hb
    | false =>
      have e : z.cps.toList.all pb = false := by
        rw [← Bool.not_eq_true, List.all_eq_true]
        intro q
        have hl := (Array.getElem?_eq_some_iff.mp hc)
        obtain ⟨hl, e⟩ := hl
        have := q c (by rw [← e]; simp)
        rw [hb] at this
        cases this
      rw [e] at h
      exact h
end Gx
namespace Gx
open PySem PySem.Spec PyProof.Rows L2 GxR
/-- a for's n turns -/
theorem for_turns {J : It} {g : TG} {tb : TS} {D : Ends} {σ : L2.St} {H : Hp} (n : Nat) (Pv : Nat → L2.St → Hp → Prop) (h0 : Pv 0 σ H)
    (hs : ∀ i σ H, i < n → Pv i σ H → J.go i H ∧ ∀ x H', J.yld i H x H' → g x σ H' fun σ2 H2 => tb { D with nx := Pv (i + 1), ct := Pv (i + 1), bk := D.nx } σ2 H2) (hd : ∀ σ H, Pv n σ H → J.stop n H ∧ D.nx σ H) :
    ∃ W : Nat → Nat → L2.St → Hp → Prop, (∃ m, W 0 m σ H) ∧ ∀ i m σ H, W i m σ H →
      (J.stop i H ∧ D.nx σ H) ∨ (J.go i H ∧ ∃ N : L2.St → Hp → Prop, (∀ σ' H', N σ' H' → ∃ m', m' < m ∧ W (i + 1) m' σ' H') ∧ ∀ x H', J.yld i H x H' → g x σ H' fun σ2 H2 => tb { D with nx := N, ct := N, bk := D.nx } σ2 H2) := by
  refine ⟨fun i m σ H => i + m = n ∧ Pv i σ H, ⟨n, Nat.zero_add n, h0⟩, fun i m σ H w => ?_⟩
  obtain ⟨e, p⟩ := w
  rcases Nat.lt_or_ge i n with hi | hi
  · obtain ⟨a, b⟩ := hs i σ H hi p
    exact .inr ⟨a, Pv (i + 1), fun σ' H' p' => ⟨m - 1, by omega, by omega, p'⟩, b⟩
  · have e2 : i = n := by omega
    subst e2
    exact .inl (hd σ H p)
/-- a list comprehension's n turns -/
theorem lc_turns {J : It} {g : TG} {tt : TT} {te : TE} {vs : List Nat} {σ : L2.St} {Q : VK} {H1 : Hp} {D : Addr} (n : Nat) (Pv : Nat → Hp → Prop) (h0 : Pv 0 (upd H1 D (.lst []))) (hs : ∀ H, Pv n H → J.stop n H ∧ Q (.ref D) H)
    (ht : ∀ i H, i < n → Pv i H → J.go i H ∧ ∀ x H', J.yld i H x H' → g x (wipe σ vs) H' fun σ2 H2 => wipe σ2 vs = wipe σ vs ∧ tt σ2 H2 fun b H3 =>
      if b = true then te σ2 H3 fun y H4 => ∃ acc, H4 D = some (.lst acc) ∧ acc.length < sizeLine ∧ Pv (i + 1) (upd H4 D (.lst (acc ++ [y]))) else Pv (i + 1) H3) :
    ∃ W : Nat → Nat → Hp → Prop, (∃ m, W 0 m (upd H1 D (.lst []))) ∧ ∀ i m H, W i m H →
      (J.stop i H ∧ Q (.ref D) H) ∨ (J.go i H ∧ ∃ Nx : Hp → Prop, (∀ H', Nx H' → ∃ m', m' < m ∧ W (i + 1) m' H') ∧ ∀ x H', J.yld i H x H' → g x (wipe σ vs) H' fun σ2 H2 => wipe σ2 vs = wipe σ vs ∧ tt σ2 H2 fun b H3 =>
        if b = true then te σ2 H3 fun y H4 => ∃ acc, H4 D = some (.lst acc) ∧ acc.length < sizeLine ∧ Nx (upd H4 D (.lst (acc ++ [y]))) else Nx H3) := by
  refine ⟨fun i m H => i + m = n ∧ Pv i H, ⟨n, Nat.zero_add n, h0⟩, fun i m H w => ?_⟩
  obtain ⟨e, p⟩ := w
  rcases Nat.lt_or_ge i n with hi | hi
  · obtain ⟨a, b⟩ := ht i H hi p
    exact .inr ⟨a, Pv (i + 1), fun H' p' => ⟨m - 1, by omega, by omega, p'⟩, b⟩
  · have e2 : i = n := by omega
    subst e2
    exact .inl (hs H p)
end Gx
end Text_Gb
section Text_Gc
set_option Elab.async false
set_option linter.all false
set_option maxRecDepth 100000
set_option maxHeartbeats 4000000
namespace GxR
open PySem PySem.Spec PyProof.Rows L2 Gx
theorem take_succ_mem {α : Type} {xs : List α} {j : Nat} {x y : α} (h : xs[j]? = some x) (m : y ∈ xs.take (j + 1)) : y ∈ xs.take j ∨ y = x := by
  rw [List.take_add_one, h] at m
  rcases List.mem_append.mp m with m | m
  · exact .inl m
  · exact .inr (by simpa using m)
/-- any over a list of texts, the test a Bool function of the text; what holds of the heap meanwhile: Pv -/
theorem any_texts {K : PySem.W.Frag} {a : Addr} {xs : List Str} {i : Nat} {te : TE} {σ : L2.St} {Q : VK} {H : Hp} (Pv : Hp → Prop) (pb : Str → Bool) (hP : Pv H) (hl : ∀ G, Pv G → SqL K G a (xs.map V.str))
    (hte : ∀ x ∈ xs, ∀ (G : Hp) (Q' : VK), Pv G → (∀ G', Pv G' → Q' (.bl (pb x)) G') → te ((wipe σ [i]).set i (some (.str x))) G Q') (h : ∀ G, Pv G → Q (.bl (xs.any pb)) G) :
    ∃ W : Nat → Nat → Hp → Prop, (∃ m, W 0 m H) ∧ TurnG (Itl K a) (gName i) tYes te [i] (wipe σ [i]) Q false W := by
  refine turns_of xs.length (fun j G => Pv G ∧ ∀ x ∈ xs.take j, pb x = false) ⟨hP, fun x hx => by simp at hx⟩ (fun G p => ⟨⟨_, hl G p.1, by simp⟩, ?_⟩) fun j G hj p => ⟨⟨_, .str xs[j], hl G p.1, by simp [hj]⟩, fun x G2 y => ?_⟩
  · have e : xs.any pb = false := by
      rw [List.any_eq_false]
      intro c hc
      have := p.2 c (by rw [List.take_length]; exact hc)
      simp [this]
    have q := h G p.1
    rw [e] at q
    exact q
  · obtain ⟨rfl, y⟩ := y
    have y' := y _ (hl _ p.1)
    have ej : xs[j]? = some xs[j] := by simp [hj]
    rw [List.getElem?_map, ej] at y'
    obtain rfl := (Option.some.inj y').symm
    refine ⟨wipe_one, hte _ (List.getElem_mem hj) _ _ p.1 fun G' p' => ⟨_, rfl, ?_⟩⟩
    by_cases hb : pb xs[j] = true
    · rw [hb]
      have e : xs.any pb = true := List.any_eq_true.mpr ⟨_, List.getElem_mem hj, hb⟩
      have q := h G' p'
      rw [e] at q
      exact q
    · have hb' : pb xs[j] = false := by simpa using hb
      rw [hb']
      refine ⟨p', fun x hx => ?_⟩
      rcases take_succ_mem ej hx with m | m
      · exact p.2 x m
      · rw [m]; exact hb'
/-- a dict comprehension over a list -/
theorem dc_list {K : PySem.W.Frag} {a : Addr} {xs : List V} {g : TG} {tt : TT} {tk tv : TE} {vs : List Nat} {σ : L2.St} {H1 : Hp} {D : Addr} {Qd : Hp → Prop} (Pv : Nat → Hp → Prop) (h0 : Pv 0 (upd H1 D (.dK []))) (hl : ∀ i H, i ≤ xs.length → Pv i H → SqL K H a xs)
    (hs : ∀ i x H, xs[i]? = some x → Pv i H → g x (wipe σ vs) H fun σ2 H2 => wipe σ2 vs = wipe σ vs ∧ tt σ2 H2 fun b H3 =>
      if b = true then tk σ2 H3 fun y H4 => tv σ2 H4 fun z H5 => ∃ kvs k, y = kV k ∧ H5 D = some (.dK kvs) ∧ kvs.length < sizeLine ∧ Pv (i + 1) (upd H5 D (.dK (putK kvs k z))) else Pv (i + 1) H3) (hd : ∀ H, Pv xs.length H → Qd H) :
    ∃ W : Nat → Nat → Hp → Prop, (∃ m, W 0 m (upd H1 D (.dK []))) ∧ ∀ i m H, W i m H →
      ((Itl K a).stop i H ∧ Qd H) ∨ ((Itl K a).go i H ∧ ∃ Nx : Hp → Prop, (∀ H', Nx H' → ∃ m', m' < m ∧ W (i + 1) m' H') ∧ ∀ x H', (Itl K a).yld i H x H' → g x (wipe σ vs) H' fun σ2 H2 => wipe σ2 vs = wipe σ vs ∧ tt σ2 H2 fun b H3 =>
        if b = true then tk σ2 H3 fun y H4 => tv σ2 H4 fun z H5 => ∃ kvs k, y = kV k ∧ H5 D = some (.dK kvs) ∧ kvs.length < sizeLine ∧ Nx (upd H5 D (.dK (putK kvs k z))) else Nx H3) := by
  refine ⟨fun i m H => i + m = xs.length ∧ Pv i H, ⟨xs.length, Nat.zero_add _, h0⟩, fun i m H w => ?_⟩
  obtain ⟨e, p⟩ := w
  have q := hl i H (by omega) p
  rcases Nat.lt_or_ge i xs.length with hi | hi
  · refine .inr ⟨⟨xs, xs[i], q, by simp [hi]⟩, Pv (i + 1), fun H' p' => ⟨m - 1, by omega, by omega, p'⟩, fun x H' y => ?_⟩
    obtain ⟨e2, y⟩ := y
    subst e2
    exact hs i x _ (y xs q) p
  · have e2 : i = xs.length := by omega
    subst e2
    exact .inl ⟨⟨xs, q, Nat.le_refl _⟩, hd H p⟩
end GxR
end Text_Gc
section Text_Gl
set_option Elab.async false
set_option linter.all false
set_option maxRecDepth 100000
set_option maxHeartbeats 4000000
/-! LamY: lambdas without parameters and captured names, as values that stand in lists, and called by the name of a variable. -/
namespace LamY
open PySem PySem.Spec PyProof.Rows L2
/-- what stands at f is ob -/
def LamO (f : Addr) (ob : Obj) : HO := .ext fun h => h.get? f = some ob
theorem lamO_ok {P : Program} {w : World} {H : Hp} {h : Heap} {f : Addr} {ob : Obj} (e : h.get? f = some ob) : ObjOk P w H h f (LamO f ob) := ⟨e, ⟨_, e⟩, fun _ _ e1 k => k _ e1⟩
/-- at f stands a lambda of this text; its code object is known -/
def LamAt (H : Hp) (f : Addr) (q : Str) (params : Arguments) (body : Expr) (scope : Scope) : Prop :=
  ∃ pm c' ctv, H f = some (LamO f (PySem.W.kla_obj "<lambda>" q params body scope [] pm c' ctv)) ∧ H c' = some (LamX.CodeO c' q)
theorem LamAt.ext {H H' : Hp} {f : Addr} {q : Str} {params : Arguments} {body : Expr} {scope : Scope} (l : LamAt H f q params body scope) (e : LamX.ExtN H H') : LamAt H' f q params body scope := by
  obtain ⟨pm, c', ctv, h1, h2⟩ := l
  exact ⟨pm, c', ctv, e _ _ h1 (fun _ z => by unfold LamO at z; cases z), e _ _ h2 LamX.codeO_ne⟩
/-- all but the table at P stays -/
def But (P : Addr) (H H' : Hp) : Prop := ∀ b o, b ≠ P → H b = some o → H' b = some o
/-- a lambda is made -/
def tLamb (P : Addr) (q : Str) (params : Arguments) (body : Expr) (scope : Scope) : TE := fun _ H Q => LamX.TabS H P q ∧ ∀ H1 f, But P H H1 → LamX.TabS H1 P q → LamAt H1 f q params body scope → Q (.ref f) H1
section
variable {X : Cx} {pins : List (Addr × Obj)} {σ : L2.St} {H : Hp} {s : Shared}
theorem pe_lambda {c P : Addr} {params : Arguments} {body : Expr} {scope : Scope} {pos : Pos} (TB : LamX.TabB X.base X.mg c P) (hcode : X.env.code = .ref c) (hdef : defaultsOf params X.env = ([], []))
    (hfree : ∀ y ∈ scope.names, y.2 ≠ .free) (hcl : cloFrom X.env.cells scope.names [] = []) : PE X (.Lambda params body scope pos) (tLamb P (X.env.qual ++ "<lambda>") params body scope) := by
  refine ⟨fun pins s σ H Q I h => ?_⟩
  obtain ⟨hT, h⟩ := h
  obtain ⟨ps, hP, ht, ha⟩ := hT
  refine PySem.W.kla_eval hdef ?_
  have bP := TB.bm.keeps I.bk
  have tabP : s.heap.get? P = some { cls := .none, data := .fields ps } := I.hok P _ hP
  have hclo : ∀ y ∈ scope.names, y.2 = .free → ∃ c, X.env.cells.lookup y.1 = some c := fun y hy e => absurd e (hfree y hy)
  cases hc : codeAmong pos ps.toList with
  | none =>
    refine PySem.W.kla_makeFunction (mg := X.mg) (c := c) (P := P) (ps := ps) (closure_ok hclo) I.ok.glob (I.mod.glob.keeps I.bk) hcode (TB.code.keeps I.bk) tabP ht hc TB.gP bP ?_
    intro c' ctv h' tk hx hge hlt hrec htb
    obtain ⟨c2, oc, vs, t, e2, hoc, hd, hv⟩ := hrec
    cases e2
    have nC : H c' = none := I.hok.fresh hge
    have I1 := LamX.inv_table (t' := tk) (more := #[rawInt pos.line, rawInt pos.col, .ref c']) (h' := h') I hP (fun b o hb e => hx b o hb e) htb hge ⟨oc, vs, t, hoc, hd, hv⟩
    have fr1 := I1.hok.fresh (Nat.le_refl h'.objs.size)
    have I2 := I1.laid (a := h'.objs.size) (o := LamO h'.objs.size (PySem.W.kla_obj "<lambda>" (X.env.qual ++ "<lambda>") params body scope [] ((X.mg "__name__").getD .none) c' ctv))
      (h' := h'.push (PySem.W.kla_obj "<lambda>" (X.env.qual ++ "<lambda>") params body scope [] ((X.mg "__name__").getD .none) c' ctv)) (t' := tk) (fun b u e => Heap.get?_push_of_some _ e) (Nat.le_refl _) (lamO_ok (Heap.get?_push_size _ rfl))
    have but1 : But P H (upd (upd H P (.tbl (ps ++ #[rawInt pos.line, rawInt pos.col, .ref c']))) c' (LamX.CodeO c' (X.env.qual ++ "<lambda>"))) := fun b o hb e => by
      rw [upd_ne (ne_of_none e nC), upd_ne hb]
      exact e
    have up : ∀ b o, (upd (upd H P (.tbl (ps ++ #[rawInt pos.line, rawInt pos.col, .ref c']))) c' (LamX.CodeO c' (X.env.qual ++ "<lambda>"))) b = some o → ∀ u, upd (upd (upd H P (.tbl (ps ++ #[rawInt pos.line, rawInt pos.col, .ref c']))) c' (LamX.CodeO c' (X.env.qual ++ "<lambda>"))) h'.objs.size u b = some o := fun b o e u => by
      rw [upd_ne (ne_of_none e fr1)]
      exact e
    have eL : (ps ++ #[rawInt pos.line, rawInt pos.col, .ref c']).toList = ps.toList ++ [rawInt pos.line, rawInt pos.col, .ref c'] := by simp
    have nPc : P ≠ c' := ne_of_none hP nC
    rw [hcl]
    refine h _ _ (fun b o hb e => up b o (but1 b o hb e) _) ⟨_, up _ _ (by rw [upd_ne nPc, upd_same]) _, by rw [eL]; exact PySem.TriplesOk_snoc _ _ _ _ ht, fun p' cv hcv => ?_⟩ ⟨_, c', ctv, upd_same, up _ _ upd_same _⟩ |> fun q => ⟨.ref h'.objs.size, _, I2, rfl, q⟩
    rw [eL] at hcv
    rcases LamX.among_app _ ht hcv with z | z
    · obtain ⟨c0, e1, e2⟩ := ha p' cv z
      exact ⟨c0, e1, up _ _ (but1 _ _ (fun q => by rw [q, hP] at e2; exact LamX.codeO_ne _ (Option.some.inj e2).symm) e2) _⟩
    · exact ⟨c', z, up _ _ upd_same _⟩
  | some cv =>
    obtain ⟨c', e, hco⟩ := ha pos cv hc
    subst e
    refine PySem.W.kla_makeFunctionHit (mg := X.mg) (c := c) (P := P) (ps := ps) (closure_ok hclo) I.ok.glob (I.mod.glob.keeps I.bk) hcode (TB.code.keeps I.bk) tabP ht hc bP ?_
    intro ctv h' tk hx hsz
    have I2 := I.laid (a := h'.objs.size) (o := LamO h'.objs.size (PySem.W.kla_obj "<lambda>" (X.env.qual ++ "<lambda>") params body scope [] ((X.mg "__name__").getD .none) c' ctv))
      (h' := h'.push (PySem.W.kla_obj "<lambda>" (X.env.qual ++ "<lambda>") params body scope [] ((X.mg "__name__").getD .none) c' ctv)) (t' := tk) (fun b u e => Heap.get?_push_of_some _ (hx b u e)) hsz (lamO_ok (Heap.get?_push_size _ rfl))
    have fr1 := I.hok.fresh hsz
    have up : ∀ b o, H b = some o → ∀ u, upd H h'.objs.size u b = some o := fun b o e u => by
      rw [upd_ne (ne_of_none e fr1)]
      exact e
    rw [hcl]
    refine ⟨.ref h'.objs.size, _, I2, rfl, h _ _ (fun b o _ e => up b o e _) ⟨ps, up _ _ hP _, ht, fun p' cv hcv => ?_⟩ ⟨_, c', ctv, upd_same, up _ _ hco _⟩⟩
    obtain ⟨c0, e1, e2⟩ := ha p' cv hcv
    exact ⟨c0, e1, up _ _ e2 _⟩
/-- some reading of several -/
theorem pe_some {ι : Type} {e : Expr} {t : ι → TE} (h : ∀ j, PE X e (t j)) : PE X e (fun σ H Q => ∃ j, t j σ H Q) := ⟨fun pins s σ H Q I ⟨j, q⟩ => (h j).run pins s σ H Q I q⟩
/-- x(), x a name of ours that holds a lambda -/
theorem pe_callL {CX : CXT} {i k : Nat} {a q : Str} {params : Arguments} {body : Expr} {scope : Scope} {tb : XK → TE} {E : L2.St → XK} {p1 p2 : Pos} (hN : X.N[i]? = some a) (hv : Vis X.env.scope a) (hr : Room (k + 1) X.A) (S : FnScope [] [] scope)
    (hbind : ∀ pm cv ctv, bindArgs (PySem.W.kla_fn "<lambda>" q params body scope [] pm cv ctv) ⟨[], []⟩ = pure []) (hx : ∀ σ, PassesAt CX X σ (E σ))
    (hbody : ∀ (f c' : Addr) (A : Around) (outer : List Env) (s : Shared) (H : Hp) (E : XK), Room k (A.deeper (envOfC q scope s.heap.objs.size f (.ref c'))) → PE (cxOf CX X.prog X.w X.K X.mg X.base [] q scope f (.ref c') A outer s H E) body (tb E))
    (hd : (a == ("__debug__" : Str)) = false := by decide) (hcd : (a == ("__classdict__" : Str)) = false := by decide) :
    PE X (.Call (.Name a p1) [] [] p2) (fun σ H Q => ∃ f, σ[i]? = some (some (.ref f)) ∧ LamAt H f q params body scope ∧ tb (E σ) [] H Q) := by
  refine ⟨fun pins s σ H Q I h => ?_⟩
  obtain ⟨f, hs, ⟨pm, c', ctv, hf, hco⟩, ht⟩ := h
  refine wpAny_Call_Name_kw (thn ((pe_var (pos := p1) (i := i) hN hv hd hcd).run pins s σ H (fun v H1 => v = .ref f ∧ H1 = H) I ⟨.ref f, hs, rfl, rfl⟩) fun u s1 ⟨v, H1, I1, r1, q1⟩ => ?_)
  obtain ⟨ev, eH⟩ := q1
  subst ev
  rw [eH] at I1
  obtain rfl : u = Value.ref f := r1
  have of1 : s1.heap.get? f = some (PySem.W.kla_obj "<lambda>" q params body scope [] pm c' ctv) := (I1.hok f _ hf).1
  obtain ⟨⟨oc, vs, t, hoc, hdc, hvc⟩, _, _⟩ := I1.hok c' _ hco
  refine PySem.W.callWith_F0 ⟨_, _, _, _, of1⟩ ?_
  have e0 := I1.env0
  have lim : s1.heap.NoLimit := I1.nolimit
  have rc : codeAny (model X.prog X.w) X.A (.call (.ref f) ⟨[], []⟩) (CR CX X.stack X.prog X.w H s1 Q (E σ)) s1 := by
    refine PySem.W.kla_callFunE hr.depth of1 rfl S.co S.gen rfl ⟨c', oc, vs, t, rfl, hoc, hdc, hvc⟩ ?_
    rw [hbind]
    refine wpAny_pure (wpAny_newFunctionEnv_cells S.kind (fun y hy => absurd hy (by simp)) fun env he s2 x => ?_)
    subst he
    refine ⟨lim.keeps x.toInCall.keep, PySem.W.kla_codeExpr ?_⟩
    have J : Inv (cxOf CX X.prog X.w X.K X.mg X.base [] q scope f (.ref c') X.A X.stack s1 H (E σ)) [] (L2.start [] []) H s2 := inv_start (us := []) (ps := []) S hr.hd e0 rfl .nil x
    refine wpAny_mono ((hbody f c' X.A X.stack s1 H (E σ) (hr.deeper _)).run [] s2 _ H Q J ht) (fun v s' hq => ?_) fun e s' hq => hq
    obtain ⟨w', H', J', rv, q⟩ := hq
    exact ⟨w', H', J'.os, J'.bare, J'.base, J'.hok, rv, q⟩
  refine wpAny_call (codeAny_mono rc fun r s' hq => ?_)
  cases r with
  | error e => exact hx σ pins H s1 e s' I1 hq
  | ok fl =>
    cases fl with
    | ret u => exact I1.after hq
    | next => exact False.elim hq
    | brk => exact False.elim hq
    | cont => exact False.elim hq
end
end LamY
end Text_Gl
section Text_Gd
set_option Elab.async false
set_option linter.all false
set_option maxRecDepth 100000
set_option maxHeartbeats 4000000
/-! Gd: generator expressions of any consumer, and such as hold others within. -/
namespace Gx
open PySem PySem.Spec PyProof.Rows L2 GxR
/-- what a consumer does with an item, and what holds ahead of the next turn -/
abbrev Con := V → Hp → (Hp → Prop) → Prop
def Con.Mono (C : Con) : Prop := ∀ (y : V) (H : Hp) (k k' : Hp → Prop), (∀ G, k G → k' G) → C y H k → C y H k'
/-- the end of the walk: nothing is left; r: what is known of the state at the last waking -/
def RK (Z : Cx) (Qe : Hp → Prop) (r : Shared → Hp → Prop) : GenEnd := fun _ s₀ o s₁ => o = .ok .next ∧ ∃ σ' H', Inv Z [] σ' H' s₁ ∧ Qe H' ∧ r s₀ H'
/-- an item is handed out -/
def YK (Z : Cx) (C : Hp → Con) (r : Shared → Hp → Prop) : Protocol := fun _ s₀ v s₁ kap => ∃ y ps σ' H' H0, L2.RelV y v ∧ Inv Z ps σ' H' s₁ ∧ r s₀ H' ∧ C H0 y H' fun H2 => ∀ s', Inv Z ps σ' H2 s' → r s' H2 → kap (.send .none) s'
/-- what comes of an item that a test leaves out -/
abbrev Lef := Hp → Hp → (Hp → Prop) → Prop
def TurnK (J : It) (g : TG) (tt : TT) (te : TE) (vs : List Nat) (σ0 : L2.St) (C : Hp → Con) (F : Lef) (Qe : Hp → Prop) (W : Nat → Nat → Hp → Prop) : Prop :=
  ∀ i m H, W i m H → (J.stop i H ∧ Qe H) ∨ (J.go i H ∧ ∃ Nx : Hp → Prop, (∀ H', Nx H' → ∃ m', m' < m ∧ W (i + 1) m' H') ∧
    ∀ x H', J.yld i H x H' → g x σ0 H' fun σ2 H2 => wipe σ2 vs = σ0 ∧ tt σ2 H2 fun b H3 => if b = true then te σ2 H3 fun y H4 => C H y H4 Nx else F H H3 Nx)
/-- the consumer keeps what is known of the last waking -/
structure Keeps (r : Shared → Hp → Prop) (C : Hp → Con) (F : Lef) : Prop where
  mono : ∀ H, (C H).Mono
  item : ∀ s₀ H y H4 k, C H y H4 k → r s₀ H → r s₀ H4
  left : ∀ s₀ H H3 k, F H H3 k → r s₀ H → r s₀ H3 ∧ k H3
/-- a consumer that asks nothing of the last waking -/
def rT : Shared → Hp → Prop := fun _ _ => True
def fT : Lef := fun _ H k => k H
theorem Con.Mono.keeps {C : Con} (h : C.Mono) : Keeps rT (fun _ => C) fT := ⟨fun _ => h, fun _ _ _ _ _ _ _ => trivial, fun _ _ _ _ q _ => ⟨trivial, q⟩⟩
abbrev RV (Z : Cx) (Qe : Hp → Prop) : GenEnd := RK Z Qe rT
abbrev YV (Z : Cx) (C : Con) : Protocol := YK Z (fun _ => C) rT
abbrev TurnV (J : It) (g : TG) (tt : TT) (te : TE) (vs : List Nat) (σ0 : L2.St) (C : Con) (Qe : Hp → Prop) (W : Nat → Nat → Hp → Prop) : Prop := TurnK J g tt te vs σ0 (fun _ => C) fT Qe W

section
variable {Z : Cx}
theorem segV_turns {A : Around} {elt tg iter : Expr} {ifs : List Expr} {scope : Scope} {pos : Pos} {it : Addr} {fp : List Addr} {tn : Nat → Heap → Prop} {J : It} {g : TG} {tt : TT} {te : TE} {vs : List Nat} {σ0 : L2.St} {C : Hp → Con} {F : Lef} {Qe : Hp → Prop} {r : Shared → Hp → Prop}
    {W : Nat → Nat → Hp → Prop} (hA : A.over (.compLoop (.GeneratorExp elt [⟨tg, iter, ifs, 0⟩] scope pos) 0 (.ref it) .none Z.env) [] = Z.A) (hx : Z.xe = fun _ _ => False) (hco : Z.env.scope.isCoroutine = false) (hcalm : Z.calm = true) (hex : Z.ex = fp)
    (hpn : ∀ p ∈ Z.pn, ∀ b ∈ fp, p.1 ≠ b) (T : Turn Z.prog Z.w Z.K tg J fp it tn) (pg : PG Z tg g) (pt : PTs Z ifs tt) (pe : PE Z elt te) (hW : TurnK J g tt te vs σ0 C F Qe W) (hC : Keeps r C F) :
    ∀ (m n i : Nat) (s₀ s : Shared) (H : Hp), m + 1 ≤ n → Inv Z [] σ0 H s → tn i s.heap → (∀ b ∈ fp, H b = none) → W i m H → r s₀ H →
      Seg (model Z.prog Z.w) A (RK Z Qe r) (YK Z C r) n s₀ (.compLoop (.GeneratorExp elt [⟨tg, iter, ifs, 0⟩] scope pos) 0 (.ref it) .none Z.env)
        ((model Z.prog Z.w).den (.compLoop (.GeneratorExp elt [⟨tg, iter, ifs, 0⟩] scope pos) 0 (.ref it) .none Z.env)) [] s := by
  have stat : ∀ {σ' : L2.St} {H' : Hp} {s' : Shared}, Inv Z [] σ' H' s' → (∀ b ∈ fp, H' b = none) → ∀ b ∈ fp, FpOk Z [] H' b := fun {σ' H' s'} I hn b hb => by
    have hb' : b ∈ Z.ex := by rw [hex]; exact hb
    refine ⟨hn b hb, (I.ok.exf b hb').1, I.ok.exfs b hb', .inl hb', (I.ok.exf b hb').2, fun p hp => hpn p ?_ b hb⟩
    simpa using hp
  intro m
  induction m using Nat.strongRecOn with
  | ind m ih =>
    intro n i s₀ s H hmn I st nf w rr
    obtain ⟨n, rfl⟩ : ∃ k, n = k + 1 := ⟨n - 1, by omega⟩
    show Seg _ A _ _ _ s₀ _ ((compTurn (.GeneratorExp elt [⟨tg, iter, ifs, 0⟩] scope pos) 0 (.ref it) .none Z.env).onRaise (leaving Z.env)) [] s
    rw [compTurn_gen, Sem.onRaise_eq_wrap]
    refine seg_bind_wrap (wpAny_standAt ?_)
    rcases hW i m H w with ⟨stop, qq⟩ | ⟨go, Nx, hNx, step⟩
    · have td := T.done Z rfl rfl rfl hcalm i [] s σ0 H (fun _ _ => False) I (stat I nf) st stop
      refine seg_bind_wrap ?_
      rw [hA]
      refine thnF td fun r s1 hr => ?_
      obtain ⟨hr, I1⟩ := hr
      subst hr
      exact seg_end (.ok .next) ⟨rfl, σ0, H, I1, qq, rr⟩
    · have ti := T.item Z rfl rfl rfl hcalm i [] s σ0 H (fun _ _ => False) I (stat I nf) st go
      refine seg_bind_wrap ?_
      rw [hA]
      refine thnF ti fun r s1 hr => ?_
      obtain ⟨u, hr, h1⟩ := hr
      subst hr
      refine seg_bind_wrap ?_
      rw [hA]
      refine thnF h1 fun _ s2 h2 => ?_
      obtain ⟨x, H2, I2, r2, y2, st2, n2⟩ := h2
      have I2' := I2.pinned (stat I2 n2) (T.obj _ _ st2)
      refine seg_bind_wrap ?_
      rw [hA]
      have h3 := pg.run _ s2 _ H2 x u _ I2' r2 (step x H2 y2)
      rw [hx] at h3
      refine thnF h3 fun _ s3 q3 => ?_
      obtain ⟨σ3, H3, I3, hw3, q3⟩ := q3
      refine seg_bind_wrap ?_
      rw [hA]
      have h4 := pt.run _ s3 σ3 H3 _ I3 q3
      rw [hx] at h4
      refine thnF h4 fun b s4 q4 => ?_
      obtain ⟨H4, I4, q4⟩ := q4
      -- a turn's end
      have hl : σ0.length = σ3.length := by rw [← hw3, wipe_length]
      have hk : ∀ (j : Nat) v, σ0[j]? = some (some v) → σ3[j]? = some (some v) := fun j v e => by
        rw [← hw3] at e
        exact (wipe_some e).1
      have fin : ∀ {k : Nat} {s₀' s' : Shared} {H' : Hp}, m ≤ k → Inv Z ([] ++ pinsAt fp s2.heap) σ3 H' s' → Nx H' → r s₀' H' →
          Seg (model Z.prog Z.w) A (RK Z Qe r) (YK Z C r) k s₀' (.compLoop (.GeneratorExp elt [⟨tg, iter, ifs, 0⟩] scope pos) 0 (.ref it) .none Z.env) ((model Z.prog Z.w).den (.compLoop (.GeneratorExp elt [⟨tg, iter, ifs, 0⟩] scope pos) 0 (.ref it) .none Z.env)) [] s' := fun {k s₀' s' H'} hk' I' nx r' => by
        obtain ⟨m', hm, w'⟩ := hNx H' nx
        have pin' : ∀ b ∈ fp, ∀ o, s2.heap.get? b = some o → s'.heap.get? b = some o ∧ H' b = none := fun b hb o e =>
          let z := I'.pin (b, o) (List.mem_append_right _ (List.mem_append_right _ (mem_pinsAt hb e)))
          ⟨z.1, z.2.1⟩
        refine ih m' hm k (i + 1) s₀' s' H' (by omega) ((I'.unpinned (pins := [])).weak hl hk) (T.keep _ _ _ st2 fun b hb o e => (pin' b hb o e).1) (fun b hb => ?_) w' r'
        obtain ⟨o, e, _⟩ := T.obj _ _ st2 b hb
        exact (pin' b hb o e).2
      cases b with
      | false =>
        simp only [Bool.false_eq_true, if_false] at q4 ⊢
        exact seg_again rfl (fin (by omega) I4 (hC.left _ _ _ _ q4 rr).2 (hC.left _ _ _ _ q4 rr).1)
      | true =>
        simp only [if_true] at q4 ⊢
        have hy : ∀ v, yieldOut Z.env v = yieldValue v := fun v => by simp only [yieldOut, hco, Bool.false_eq_true, if_false]
        simp only [hy]
        rw [Sem.bind_eq_wrap', Sem.bind_eq_wrap', Sem.wrap_wrap, Sem.wrap_wrap]
        refine seg_wrap ?_
        rw [hA]
        have h5 := pe.run _ s4 σ3 H4 _ I4 q4
        rw [hx] at h5
        refine thnF h5 fun v s5 q5 => ?_
        obtain ⟨yv, H5, I5, r5, q5⟩ := q5
        exact seg_at (seg_yield rfl rfl rfl ⟨yv, _, σ3, H5, H, r5, I5, hC.item _ _ _ _ _ q5 rr, hC.mono _ _ _ _ _ (fun H2 nx s' I' r' => seg_again rfl (fin (by omega) I' nx r')) q5⟩)
end
section
variable {Z : Cx}
theorem segV_first {A : Around} {elt tg iter : Expr} {ifs : List Expr} {scope : Scope} {pos : Pos} {it : Addr} {fp : List Addr} {tn : Nat → Heap → Prop} {J : It} {g : TG} {tt : TT} {te : TE} {vs : List Nat} {σ0 : L2.St} {C : Hp → Con} {F : Lef} {Qe : Hp → Prop} {r : Shared → Hp → Prop}
    {W : Nat → Nat → Hp → Prop} (hA : A.deeper Z.env = Z.A) (hx : Z.xe = fun _ _ => False) (hco : Z.env.scope.isCoroutine = false) (hcalm : Z.calm = true) (hex : Z.ex = fp)
    (hpn : ∀ p ∈ Z.pn, ∀ b ∈ fp, p.1 ≠ b) (T : Turn Z.prog Z.w Z.K tg J fp it tn) (pg : PG Z tg g) (pt : PTs Z ifs tt) (pe : PE Z elt te) (hW : TurnK J g tt te vs σ0 C F Qe W) (hC : Keeps r C F)
    (m n : Nat) (s₀ s : Shared) (H : Hp) (hm : m + 1 ≤ n) (I : Inv Z [] σ0 H s) (st : tn 0 s.heap) (nf : ∀ b ∈ fp, H b = none) (w : W 0 m H) (rr : r s₀ H) :
      Seg (model Z.prog Z.w) A (RK Z Qe r) (YK Z C r) n s₀ (.compStart (.GeneratorExp elt [⟨tg, iter, ifs, 0⟩] scope pos) 0 (.ref it) .none Z.env)
        ((model Z.prog Z.w).den (.compStart (.GeneratorExp elt [⟨tg, iter, ifs, 0⟩] scope pos) 0 (.ref it) .none Z.env)) [] s := by
  have loop := fun s₀ => segV_turns (A := A) (pos := pos) (scope := scope) (iter := iter) (over_loop.trans hA) hx hco hcalm hex hpn T pg pt pe hW hC m n 0 s₀ s H hm I st nf w
  show Seg _ A _ _ _ s₀ _ ((compStart (.GeneratorExp elt [⟨tg, iter, ifs, 0⟩] scope pos) 0 (.ref it) .none Z.env).onRaise (leaving Z.env)) [] s
  unfold compStart
  rw [Sem.onRaise_eq_wrap]
  show Seg _ A _ _ _ s₀ _ ((ask >>= _).wrap _ _ _ _) [] s
  refine seg_bind_wrap (wpAny_askSetting ?_)
  split
  · exact seg_again rfl (loop s₀ rr)
  · first
      | exact seg_bind_wrap (wpAny_rule (seg_bind_wrap (wpAny_standAt (seg_bind_wrap (T.self _ 0 s _ _ st (seg_again rfl (loop s₀ rr)))))))
      | (refine seg_bind_wrap (wpAny_rule ?_); show Seg _ A _ _ _ s₀ _ ((standAt iter.pos >>= _).wrap _ _ _ _) [] s; exact seg_bind_wrap (wpAny_standAt (seg_bind_wrap (T.self _ 0 s _ _ st (seg_again rfl (loop s₀ rr))))))

end

/-- the code object of a generator expression is made, or found: what is asked ahead, what holds of it behind -/
def MkC (X : Cx) (pos : Pos) (qual : Str) (scope : Scope) (Pre : Hp → Prop) (Post : Hp → Hp → Value → Prop) : Prop :=
  ∀ (pins : List (Addr × Obj)) (σ : L2.St) (H : Hp) (s : Shared) (E : Value → Shared → Prop) (Q : Value → Shared → Prop), Inv X pins σ H s → Pre H →
    (∀ cd s' H', Inv X pins σ H' s' → Post H H' cd → (∀ b, H b = none → b < s.heap.objs.size → H' b = none) → (∀ b o, H b = none → s.heap.get? b = some o → s'.heap.get? b = some o) → Q cd s') →
    wpAny (model X.prog X.w) X.A (genexprCode X.env pos qual scope) Q E s
/-- a code object known by what a making of another one asks of it -/
def CodeG (c P : Addr) : HO := .ext fun h => PySem.W.CodeHd h c P
theorem codeG_ne {c P : Addr} (ps : Array Value) : CodeG c P ≠ .tbl ps := fun z => by
  unfold CodeG at z
  cases z
theorem codeG_hd {X : Cx} {pins : List (Addr × Obj)} {σ : L2.St} {H : Hp} {s : Shared} {c P : Addr} (I : Inv X pins σ H s) (e : H c = some (CodeG c P)) : PySem.W.CodeHd s.heap c P := (I.hok c _ e).1
theorem codeHd_one {h : Heap} {c P P' : Addr} (a : PySem.W.CodeHd h c P) (b : PySem.W.CodeHd h c P') : P = P' := by
  obtain ⟨o, vs, _, _, _, _, _, _, _, e1, _, e3, e4, _⟩ := a
  obtain ⟨o', vs', _, _, _, _, _, _, _, f1, _, f3, f4, _⟩ := b
  rw [e1] at f1
  cases f1
  rw [e3] at f3
  cases f3
  rw [e4] at f4
  cases f4
  rfl
/-- a table whose code objects are known, each with a table of its own -/
def TabN (H : Hp) (P : Addr) (L : List Addr) : Prop := ∃ ps : Array Value, H P = some (.tbl ps) ∧ TriplesOk ps.toList ∧ ∀ (pos : Pos) (cv : Value), codeAmong pos ps.toList = some cv → ∃ c' P', cv = .ref c' ∧ H c' = some (CodeG c' P') ∧ TabG H P' ∧ P' ≠ P ∧ P' ∉ L
theorem TabN.tab {H : Hp} {P : Addr} {L : List Addr} (t : TabN H P L) : TabG H P := let ⟨ps, a, b, _⟩ := t; ⟨ps, a, b⟩
theorem TabN.nil {H : Hp} {P : Addr} {L : List Addr} (h : H P = some (.tbl #[])) : TabN H P L := ⟨#[], h, True.intro, fun pos cv hc => by cases hc⟩

section
variable {X : Cx}
theorem mkC_of {pos : Pos} {qual : Str} {scope : Scope} {Pre : Hp → Prop} {Post : Hp → Hp → Value → Prop} {c : Value}
    (hcode : X.env.code = c) (hd : ∀ {pins σ H s}, Inv X pins σ H s → Pre H → ∃ c1 P, c = .ref c1 ∧ PySem.W.CodeHd s.heap c1 P ∧ TabG H P ∧ ∀ H' cd, Tabbed P H H' → Post H H' cd) : MkC X pos qual scope Pre Post := by
  intro pins σ H s E Q I hp k
  obtain ⟨c1, P, ec, cd2, ⟨ps, hP, hok⟩, hq⟩ := hd I hp
  have hcode : X.env.code = .ref c1 := hcode.trans ec
  have hPs : s.heap.get? P = some { cls := .none, data := .fields ps } := I.hok P _ hP
  have nP : ∀ b, H b = none → b ≠ P := fun b e z => by
    rw [z, hP] at e
    cases e
  cases hf : codeAmong pos ps.toList with
  | some cv =>
    refine wpAny_genexprCode_hit hcode (cd2.code hPs hok) hf ?_
    exact k cv s H I (hq H cv ⟨⟨ps, hP, hok⟩, fun _ _ => rfl⟩) (fun b e _ => e) fun b o _ e => e
  | none =>
    refine wpAny_genexprCodeX hcode (cd2.code hPs hok) (cd2.tab hPs) hf fun c' h' tk hx2 hge hlt hco' _ htab' _ => ?_
    obtain ⟨o1, vs1, g1, tf, fl, tg1, inF, tx, tt1, op, _, _, _, _, _, _, _, _, _, htr, _⟩ := hco'
    have I3 := inv_tab (more := #[rawInt pos.line, rawInt pos.col, .ref c']) (g' := s.gens) (d' := s.drawn) (t' := tk) I hP (fun b o hb e => hx2 b o hb e) htab'.2 I.bare
    exact k (.ref c') _ _ I3 (hq _ _ ⟨⟨_, upd_same, htr⟩, fun b hb => upd_ne hb⟩) (fun b e _ => by rw [upd_ne (nP b e)]; exact e) fun b o e eo => hx2 b o (nP b e) eo
/-- the running def's own code object, its table at P -/
theorem mkC_base {pos : Pos} {qual : Str} {scope : Scope} {c P : Addr} (TB : TabB X.base X.mg c P) (hcode : X.env.code = .ref c) : MkC X pos qual scope (fun H => TabG H P) (fun H H' _ => Tabbed P H H') :=
  mkC_of hcode fun I hp => ⟨c, P, rfl, TB.code.keeps I.bk, hp, fun _ _ t => t⟩
/-- a generator's own code object, known -/
theorem mkC_dyn {pos : Pos} {qual : Str} {scope : Scope} {cd : Value} (hcode : X.env.code = cd) : MkC X pos qual scope (fun H => ∃ c P, cd = .ref c ∧ H c = some (CodeG c P) ∧ TabG H P) (fun H H' _ => ∀ c P, cd = .ref c → H c = some (CodeG c P) → Tabbed P H H') :=
  mkC_of hcode fun I hp => by
    obtain ⟨c, P, e, h, t⟩ := hp
    refine ⟨c, P, e, codeG_hd I h, t, fun H' _ tb c2 P2 e2 h2 => ?_⟩
    rw [e] at e2
    cases e2
    rw [← codeHd_one (codeG_hd I h) (codeG_hd I h2)]
    exact tb
/-- the table's object is written, a code object and its table are new and known from now on; all else is kept -/
theorem inv_tabC {pins : List (Addr × Obj)} {σ : L2.St} {H : Hp} {s : Shared} {P c P' : Addr} {ps more : Array Value} {h' : Heap} {t' : Nat} (I : Inv X pins σ H s) (hP : H P = some (.tbl ps)) (k : ∀ b o, b ≠ P → s.heap.get? b = some o → h'.get? b = some o)
    (hm : h'.get? P = some { cls := .none, data := .fields (ps ++ more) }) (hc : s.heap.objs.size ≤ c) (hc2 : s.heap.objs.size ≤ P') (hd : PySem.W.CodeHd h' c P') (ht : h'.get? P' = some { cls := .none, data := .fields #[] }) :
    Inv X pins σ (upd (upd (upd H P (.tbl (ps ++ more))) c (CodeG c P')) P' (.tbl #[])) { s with heap := h', toks := t' } := by
  have ncp : c ≠ P' := by
    obtain ⟨_, _, _, _, _, _, _, _, _, _, _, _, _, _, _, _, _, _, z⟩ := hd
    exact z
  have nC : H c = none := I.hok.fresh hc
  have nC2 : H P' = none := I.hok.fresh hc2
  have nPc : P ≠ c := ne_of_none hP nC
  have nPc2 : P ≠ P' := ne_of_none hP nC2
  have at_ : ∀ b, b ≠ P → b ≠ c → b ≠ P' → upd (upd (upd H P (.tbl (ps ++ more))) c (CodeG c P')) P' (.tbl #[]) b = H b := fun b h1 h2 h3 => by rw [upd_ne h3, upd_ne h2, upd_ne h1]
  have atP : upd (upd (upd H P (.tbl (ps ++ more))) c (CodeG c P')) P' (.tbl #[]) P = some (.tbl (ps ++ more)) := by rw [upd_ne nPc2, upd_ne nPc, upd_same]
  have atC : upd (upd (upd H P (.tbl (ps ++ more))) c (CodeG c P')) P' (.tbl #[]) c = some (CodeG c P') := by rw [upd_ne ncp, upd_same]
  have nP : ∀ b u, H b = some u → (∀ q, u ≠ .tbl q) → b ≠ P := fun b u e q z => by
    rw [z, hP] at e
    exact q ps (Option.some.inj e).symm
  have nN : ∀ b, H b = none → b ≠ P := fun b e z => by
    rw [z, hP] at e
    cases e
  have lt' : ∀ b o, s.heap.get? b = some o → b ≠ c := fun b o e z => by
    rw [z] at e
    exact Nat.lt_irrefl _ (Nat.lt_of_lt_of_le (Heap.lt_size e) hc)
  have lt2 : ∀ b o, s.heap.get? b = some o → b ≠ P' := fun b o e z => by
    rw [z] at e
    exact Nat.lt_irrefl _ (Nat.lt_of_lt_of_le (Heap.lt_size e) hc2)
  have sm : ∀ b u, H b = some u → b ≠ c := fun b u e => ne_of_none e nC
  have sm2 : ∀ b u, H b = some u → b ≠ P' := fun b u e => ne_of_none e nC2
  refine I.step (g' := s.gens) (d' := s.drawn) (ch := []) (fun b hb => absurd hb (by simp)) (fun b o _ _ _ e n => k b o (nN b n) e) (fun b o _ _ _ e n => ⟨o.slots, k b o (nN b n) e⟩)
    (fun b o _ e n => by rw [at_ b (nN b n) (lt' b o e) (lt2 b o e)]; exact n) (fun b o _ e => ?_) (fun b xs e => by rw [at_ b (nP b _ e (fun q z => by cases z)) (sm b _ e) (sm2 b _ e)]; exact e) (fun b o u e => by rw [at_ b (nP b _ e (fun q z => by cases z)) (sm b _ e) (sm2 b _ e)]; exact e) (fun b qs e => ?_) (fun m hn => ?_) (fun b u e => ?_) I.bare
  · by_cases hb : b = P
    · rw [hb]
      exact ⟨_, hm⟩
    · exact ⟨o, k b o hb e⟩
  · by_cases hb : b = P
    · rw [hb, hP] at e
      cases e
      rw [hb, atP]
      exact ⟨more, rfl⟩
    · rw [at_ b hb (sm b _ e) (sm2 b _ e), e]
      exact ⟨#[], by simp⟩
  · obtain ⟨ob, es, ep, ho, r⟩ := hn
    exact ⟨ob, es, ep, k _ ob (nN _ I.free) ho, r⟩
  · by_cases hb0 : b = P'
    · rw [hb0, upd_same] at e
      cases e
      rw [hb0]
      exact ht
    · by_cases hb : b = c
      · rw [hb, atC] at e
        cases e
        rw [hb]
        obtain ⟨oc, vs, f1, t1, f2, t2, b3, x4, t4, e1, e2⟩ := id hd
        exact ⟨hd, ⟨oc, e1⟩, fun h1 h2 ⟨oc, vs, f1, t1, f2, t2, b3, x4, t4, e1, e2⟩ st => ⟨oc, vs, f1, t1, f2, t2, b3, x4, t4, st _ e1, e2⟩⟩
      · by_cases hb2 : b = P
        · rw [hb2, atP] at e
          cases e
          rw [hb2]
          exact hm
        · rw [at_ b hb2 hb hb0] at e
          refine (I.hok b u e).stay (fun d v hd q => k d v ?_ q) (fun d q => by rw [at_ d (nP d _ q (fun q z => by cases z)) (sm d _ q) (sm2 d _ q)]; exact q) fun d xs q => by rw [at_ d (nP d _ q (fun q z => by cases z)) (sm d _ q) (sm2 d _ q)]; exact q
          rcases hd with z | z
          · rw [z]
            exact hb2
          · exact nP d _ z (fun q z => by cases z)
/-- the running def's own code object, those of its table known -/
theorem mkC_tabN {pos : Pos} {qual : Str} {scope : Scope} {c P : Addr} {L : List Addr} (TB : TabB X.base X.mg c P) (hcode : X.env.code = .ref c) :
    MkC X pos qual scope (fun H => TabN H P L ∧ ∀ b ∈ L, ∃ o, H b = some o) (fun H H' cd => (TabN H' P L ∧ ∀ b o, H b = some o → b ≠ P → H' b = some o) ∧ ∃ c' P', cd = .ref c' ∧ H' c' = some (CodeG c' P') ∧ TabG H' P' ∧ P' ≠ P ∧ P' ∉ L) := by
  intro pins σ H s E Q I hp k
  obtain ⟨hp, hL⟩ := hp
  obtain ⟨ps, hP, hok, hk⟩ := id hp
  have cd2 : PySem.W.CodeHd s.heap c P := TB.code.keeps I.bk
  have hPs : s.heap.get? P = some { cls := .none, data := .fields ps } := I.hok P _ hP
  have nP : ∀ b, H b = none → b ≠ P := fun b e z => by
    rw [z, hP] at e
    cases e
  cases hf : codeAmong pos ps.toList with
  | some cv =>
    refine wpAny_genexprCode_hit hcode (cd2.code hPs hok) hf ?_
    obtain ⟨c', P', e1, e2, e3, e4, e5⟩ := hk pos cv hf
    exact k cv s H I ⟨⟨hp, fun b o e _ => e⟩, c', P', e1, e2, e3, e4, e5⟩ (fun b e _ => e) fun b o _ e => e
  | none =>
    refine wpAny_genexprCodeX hcode (cd2.code hPs hok) (cd2.tab hPs) hf fun c' h' tk hx2 hge hlt hco' _ htab' hnew => ?_
    obtain ⟨P', hge2, hcodeN, htabN⟩ := hnew
    obtain ⟨o1, vs1, g1, tf, fl, tg1, inF, tx, tt1, op, _, _, _, _, _, _, _, _, _, htr, _⟩ := hco'
    have hd := PySem.W.CodeHd.of hcodeN htabN
    have I3 := inv_tabC (more := #[rawInt pos.line, rawInt pos.col, .ref c']) (t' := tk) I hP (fun b o hb e => hx2 b o hb e) htab'.2 hge hge2 hd htabN.2
    have nC : H c' = none := I.hok.fresh hge
    have nC2 : H P' = none := I.hok.fresh hge2
    have nPc : P ≠ c' := ne_of_none hP nC
    have nPc2 : P ≠ P' := ne_of_none hP nC2
    have ncp : c' ≠ P' := by
      obtain ⟨_, _, _, _, _, _, _, _, _, _, _, _, _, _, _, _, _, _, z⟩ := hd
      exact z
    have nL : P' ∉ L := fun z => by
      obtain ⟨o, e⟩ := hL _ z
      rw [nC2] at e
      cases e
    have old : ∀ b o, H b = some o → b ≠ P → upd (upd (upd H P (.tbl (ps ++ #[rawInt pos.line, rawInt pos.col, .ref c']))) c' (CodeG c' P')) P' (.tbl #[]) b = some o := fun b o e n => by
      rw [upd_ne (ne_of_none e nC2), upd_ne (ne_of_none e nC), upd_ne n]
      exact e
    have eL : (ps ++ #[rawInt pos.line, rawInt pos.col, .ref c']).toList = ps.toList ++ [rawInt pos.line, rawInt pos.col, .ref c'] := by simp
    have tN : TabG (upd (upd (upd H P (.tbl (ps ++ #[rawInt pos.line, rawInt pos.col, .ref c']))) c' (CodeG c' P')) P' (.tbl #[])) P' := ⟨#[], upd_same, True.intro⟩
    have tC : upd (upd (upd H P (.tbl (ps ++ #[rawInt pos.line, rawInt pos.col, .ref c']))) c' (CodeG c' P')) P' (.tbl #[]) c' = some (CodeG c' P') := by rw [upd_ne ncp, upd_same]
    refine k (.ref c') _ _ I3 ⟨⟨⟨_, by rw [upd_ne nPc2, upd_ne nPc, upd_same], htr, fun p2 cv hcv => ?_⟩, old⟩, c', P', rfl, tC, tN, nPc2.symm, nL⟩ (fun b e hb => ?_) fun b o e eo => hx2 b o (nP b e) eo
    · rw [eL] at hcv
      rcases LamX.among_app _ hok hcv with z | z
      · obtain ⟨c0, P0, e1, e2, ⟨qs, e3, e4⟩, e5, e6⟩ := hk p2 cv z
        exact ⟨c0, P0, e1, old _ _ e2 (fun q => by rw [q, hP] at e2; exact codeG_ne ps (Option.some.inj e2).symm), ⟨qs, old _ _ e3 e5, e4⟩, e5, e6⟩
      · exact ⟨c', P', z, tC, tN, nPc2.symm, nL⟩
    · rw [upd_ne (Nat.ne_of_lt (Nat.lt_of_lt_of_le hb hge2)), upd_ne (Nat.ne_of_lt (Nat.lt_of_lt_of_le hb hge)), upd_ne (nP b e)]
      exact e
/-- another table grows: the table is what it was -/
theorem TabN.other {H H' : Hp} {P P' : Addr} {L : List Addr} (t : TabN H P L) (ne : P' ≠ P) (tb : Tabbed P' H H') (g : TabG H P') : TabN H' P L := by
  obtain ⟨ps, h1, h2, h3⟩ := t
  have nP : ∀ b u, H b = some u → (∀ q, u ≠ .tbl q) → b ≠ P' := fun b u e q z => by
    obtain ⟨qs, eq, _⟩ := g
    rw [z, eq] at e
    exact q qs (Option.some.inj e).symm
  refine ⟨ps, by rw [tb.2 _ ne.symm]; exact h1, h2, fun pos cv hc => ?_⟩
  obtain ⟨c0, P0, e1, e2, e3, e4⟩ := h3 pos cv hc
  refine ⟨c0, P0, e1, by rw [tb.2 _ (nP _ _ e2 codeG_ne)]; exact e2, ?_, e4⟩
  by_cases z : P0 = P'
  · rw [z]; exact tb.1
  · obtain ⟨qs, a, b⟩ := e3
    exact ⟨qs, by rw [tb.2 _ z]; exact a, b⟩
theorem TabN.ext {H H' : Hp} {P : Addr} {L : List Addr} (t : TabN H P L) (e : ∀ b o, H b = some o → H' b = some o) : TabN H' P L := by
  obtain ⟨ps, h1, h2, h3⟩ := t
  refine ⟨ps, e _ _ h1, h2, fun pos cv hc => ?_⟩
  obtain ⟨c0, P0, e1, e2, ⟨qs, a, b⟩, e4⟩ := h3 pos cv hc
  exact ⟨c0, P0, e1, e _ _ e2, ⟨qs, e _ _ a, b⟩, e4⟩
end
end Gx
end Text_Gd
section Text_Gn
set_option Elab.async false
set_option linter.all false
set_option maxRecDepth 100000
set_option maxHeartbeats 4000000
/-! Gn: a generator expression's frame whose own names may be cells. -/
namespace Gx
open PySem PySem.Spec PyProof.Rows L2 GxR
theorem cellsFrom_mem : ∀ {names : List (Str × NameKind)} {n : Nat} {acc : List (Str × Addr)} {y : Str} {c : Addr}, (y, c) ∈ cellsFrom n names acc → (y, c) ∈ acc ∨ ((y, NameKind.cell) ∈ names ∧ n ≤ c)
  | [], _, _, _, _, h => .inl h
  | (m, k) :: r, n, acc, y, c, h => by
    unfold cellsFrom at h
    split at h
    · rename_i hk
      have hk : k = .cell := by simpa using hk
      rcases cellsFrom_mem h with h | ⟨h1, h2⟩
      · rcases List.mem_cons.mp h with e | h
        · cases e
          rw [hk]
          exact .inr ⟨List.mem_cons_self, Nat.le_refl _⟩
        · exact .inl h
      · exact .inr ⟨List.mem_cons_of_mem _ h1, Nat.le_of_succ_le h2⟩
    · rcases cellsFrom_mem h with h | ⟨h1, h2⟩
      · exact .inl h
      · exact .inr ⟨List.mem_cons_of_mem _ h1, h2⟩
theorem cellsFrom_acc : ∀ {names : List (Str × NameKind)} {n : Nat} {acc : List (Str × Addr)} {p : Str × Addr}, p ∈ acc → p ∈ cellsFrom n names acc
  | [], _, _, _, h => h
  | (m, k) :: r, n, acc, p, h => by
    unfold cellsFrom
    split
    · exact cellsFrom_acc (List.mem_cons_of_mem _ h)
    · exact cellsFrom_acc h
theorem cellsFrom_own : ∀ {names : List (Str × NameKind)} {n : Nat} {acc : List (Str × Addr)} {y : Str}, (y, NameKind.cell) ∈ names → ∃ c, (y, c) ∈ cellsFrom n names acc
  | (m, k) :: r, n, acc, y, h => by
    unfold cellsFrom
    rcases List.mem_cons.mp h with e | h
    · cases e
      split
      · exact ⟨n, cellsFrom_acc List.mem_cons_self⟩
      · rename_i hk
        exact absurd rfl hk
    · split
      · exact cellsFrom_own h
      · exact cellsFrom_own h
theorem pushCells_size : ∀ (names : List (Str × NameKind)) (h : Heap), h.objs.size ≤ (pushCells h names).objs.size
  | [], _ => Nat.le_refl _
  | (_, kind) :: r, h => by
    unfold pushCells
    split
    · refine Nat.le_trans ?_ (pushCells_size r _)
      rw [Heap.size_push]
      exact Nat.le_succ _
    · exact pushCells_size r h
/-- the new cells stand, empty -/
theorem cells_new : ∀ (names : List (Str × NameKind)) (h : Heap) (acc : List (Str × Addr)) (y : Str) (c : Addr), (y, c) ∈ cellsFrom h.objs.size names acc → (y, c) ∈ acc ∨ (pushCells h names).IsCell c none ∧ h.objs.size ≤ c
  | [], _, _, _, _, m => .inl m
  | (name, kind) :: r, h, acc, y, c, m => by
    unfold pushCells
    unfold cellsFrom at m
    split at m
    · rename_i hk
      rw [if_pos hk]
      have ih := cells_new r (h.push { cls := .type "cell", data := .cell none }) ((name, h.objs.size) :: acc) y c
      rw [Heap.size_push] at ih
      rcases ih m with z | ⟨z1, z2⟩
      · rcases List.mem_cons.mp z with e | z
        · cases e
          obtain ⟨o, e, d⟩ : (h.push { cls := .type "cell", data := .cell none }).IsCell h.objs.size none := ⟨_, Heap.get?_push_size _ rfl, rfl⟩
          exact .inr ⟨⟨o, pushCells_keeps _ _ _ _ e, d⟩, Nat.le_refl _⟩
        · exact .inl z
      · exact .inr ⟨z1, Nat.le_of_succ_le z2⟩
    · rename_i hk
      rw [if_neg hk]
      exact cells_new r h acc y c m
/-- each at a place of its own -/
theorem cells_inj (lo : Nat) : ∀ (names : List (Str × NameKind)) (n : Nat) (acc : List (Str × Addr)), (∀ p ∈ acc, p.2 < n) → (∀ y z c, (y, c) ∈ acc → (z, c) ∈ acc → lo ≤ c → y = z) → ∀ y z c, (y, c) ∈ cellsFrom n names acc → (z, c) ∈ cellsFrom n names acc → lo ≤ c → y = z
  | [], _, _, _, h => h
  | (name, kind) :: r, n, acc, hl, h => by
    unfold cellsFrom
    split
    · refine cells_inj lo r (n + 1) ((name, n) :: acc) (fun p hp => ?_) fun y z c h1 h2 hc => ?_
      · rcases List.mem_cons.mp hp with e | hp
        · rw [e]; exact Nat.lt_succ_self _
        · exact Nat.lt_succ_of_lt (hl p hp)
      · rcases List.mem_cons.mp h1 with e1 | h1 <;> rcases List.mem_cons.mp h2 with e2 | h2
        · rw [(Prod.mk.inj e1).1, (Prod.mk.inj e2).1]
        · have e := (Prod.mk.inj e1).2
          exact absurd (hl _ h2) (by rw [e]; exact Nat.lt_irrefl _)
        · have e := (Prod.mk.inj e2).2
          exact absurd (hl _ h1) (by rw [e]; exact Nat.lt_irrefl _)
        · exact h y z c h1 h2 hc
    · exact cells_inj lo r n acc hl h

/-- the names of a generator expression: own ones with their places (cells too), or captured -/
structure GOkC (N : List Str) (sc scope : Scope) (own : List (Str × Nat)) : Prop where
  kind : scope.kind = .function
  co : scope.isCoroutine = false
  uniq : ∀ y ∈ scope.names, scope.names.lookup y.1 = some y.2
  dot : scope.names.lookup (".0" : Str) = some NameKind.local
  ix : ∀ p ∈ own, N[p.2]? = some p.1
  free : ∀ y ∈ scope.names, y.2 = .free → sc.names.lookup y.1 = some .cell ∨ sc.names.lookup y.1 = some .free
  own : ∀ y ∈ scope.names, y.2 = .local ∨ y.2 = .cell → y.1 ∈ own.map (·.1) ∨ y.1 ∉ N
def gOkCB (N : List Str) (sc scope : Scope) (own : List (Str × Nat)) : Bool :=
  decide (scope.kind = .function) && !scope.isCoroutine && (scope.names.all fun y => decide (scope.names.lookup y.1 = some y.2)) &&
  decide (scope.names.lookup (".0" : Str) = some NameKind.local) && (own.all fun p => decide (N[p.2]? = some p.1)) &&
  (scope.names.all fun y => !decide (y.2 = .free) || decide (sc.names.lookup y.1 = some .cell) || decide (sc.names.lookup y.1 = some .free)) &&
  (scope.names.all fun y => (!decide (y.2 = .local) && !decide (y.2 = .cell)) || decide (y.1 ∈ own.map (·.1)) || !decide (y.1 ∈ N))
theorem gOkC_by {N : List Str} {sc scope : Scope} {own : List (Str × Nat)} (h : gOkCB N sc scope own = true) : GOkC N sc scope own := by
  unfold gOkCB at h
  simp only [Bool.and_eq_true, Bool.or_eq_true, Bool.not_eq_true', decide_eq_true_eq, decide_eq_false_iff_not, List.all_eq_true] at h
  obtain ⟨⟨⟨⟨⟨⟨h1, h2⟩, h3⟩, h5⟩, h6⟩, h7⟩, h8⟩ := h
  refine ⟨h1, h2, h3, h5, h6, fun y hy e => ?_, fun y hy e => ?_⟩
  · rcases h7 y hy with (z | z) | z
    · exact absurd e z
    · exact .inl z
    · exact .inr z
  · rcases h8 y hy with (z | z) | z
    · rcases e with e | e
      · exact absurd e z.1
      · exact absurd e z.2
    · exact .inl z
    · exact .inr z
/-- a generator expression's frame at C -/
abbrev genv (X : Cx) (scope : Scope) (C : Addr) (cd : Value) : Env := genEnv scope (cellsFrom (C + 1) scope.names (cloFrom X.env.cells scope.names [])) C cd builtinsNs X.env
/-- its context: names of its own that are cells may be stored -/
abbrev gCy (X : Cx) (s : Shared) (H : Hp) (A : Around) (scope : Scope) (env : Env) (fp : List Addr) (pn : List (Addr × Obj)) : Cx := { gCx X s H A env fp pn with fn := fun x => scope.names.lookup x == some .cell }
section
variable {M : Model} {A : Around} {E : Value → Shared → Prop} {s : Shared}
theorem genexp_makeC {env : Env} {elt target iter : Expr} {ifs : List Expr} {scope : Scope} {cl : List (Str × Addr)} {pos : Pos} {Q : Value → Shared → Prop}
    (hco : scope.isCoroutine = false) (hclos : closureFor scope env = pure cl) (h0 : scope.names.lookup (".0" : Str) = some NameKind.local) (hkind : scope.kind = .function)
    (hroom : A.depth < recursionLimit)
    (h : wpAny M A (eval iter env) (fun xv s₁ => wpAny M A (pyIter xv) (fun it s₂ => s₂.heap.NoLimit ∧
      wpAny M A (genexprCode env pos (env.qual ++ "<genexpr>") scope) (fun code s₃ => wpAny M A (builtinsFor env.globals env.builtins) (fun bi s₄ =>
        ∀ h', h'.Ns s₄.heap.objs.size (fun y => if y = ".0" then some it else none) → Heap.SameBut s₄.heap.objs.size (pushCells (s₄.heap.push { cls := .type "frame", data := .dict #[] }) scope.names) h' →
          Q (.ref h'.objs.size) { s₄ with
            gens := s₄.gens.push (.fresh (.compStart (.GeneratorExp elt [⟨target, iter, ifs, 0⟩] scope pos) 0 it .none (genEnv scope (cellsFrom (s₄.heap.objs.size + 1) scope.names cl) s₄.heap.objs.size code bi env))),
            toks := s₄.toks + 1 + 1 + 1,
            heap := h'.push { cls := .type "generator", data := .fields #[.int s₄.gens.size 0, .str "<genexpr>" (s₄.toks + 1), .str (env.qual ++ "<genexpr>") (s₄.toks + 1 + 1)] } }) E s₃) E s₂) E s₁) E s)
    (hs : ∀ x, genFold iter env x = pure x) :
    wpAny M A (eval (.GeneratorExp elt [⟨target, iter, ifs, 0⟩] scope pos) env) Q E s := by
  rw [eval_GeneratorExp1 _ _ _ _ _ _ _ hco, hclos]
  refine wpAny_bind (wpAny_mono h (fun xv s₁ h₁ => ?_) fun _ _ e => e)
  refine wpAny_bind (wpAny_standAt ?_)
  refine wpAny_bind (wpAny_of_eq (hs xv) ?_)
  refine wpAny_bind (wpAny_holding (wpAny_mono h₁ (fun it s₂ h₂ => ?_) fun _ _ e => e))
  refine wpAny_bind (wpAny_enterFrame h₂.1 hroom ?_)
  refine wpAny_bind (wpAny_pure ?_)
  refine wpAny_bind (wpAny_mono h₂.2 (fun code s₃ h₃ => ?_) fun _ _ e => e)
  refine wpAny_bind (wpAny_mono h₃ (fun bi s₄ h₄ => ?_) fun _ _ e => e)
  simp only [newFunctionEnv, Option.isSome_none, Bool.false_eq_true, if_false]
  refine wpAny_bind (wpAny_bind (wpAny_alloc ?_))
  refine wpAny_bind (wpAny_layCells _ (fun name kind cells => by cases hkc : kind == NameKind.cell <;> simp [hkc]) _ _ _ _ ?_)
  rw [show ({ s₄ with heap := s₄.heap.push { cls := .type "frame", data := .dict #[] } } : Shared).heap.objs.size = s₄.heap.objs.size + 1 from Heap.size_push ..]
  rw [List.forIn_cons]
  have hns : (pushCells (s₄.heap.push { cls := .type "frame", data := .dict #[] }) scope.names).Ns s₄.heap.objs.size fun _ => none := (Heap.Ns.new s₄.heap (.type "frame")).keeps (pushCells_keeps _ _)
  refine wpAny_bind (wpAny_bind (wpAny_bind (wpAny_storeName_local h0 hns (fun h' hn' hs' => wpAny_pure ?_) (by show (scope.kind == .class || _) = false; rw [hkind]; rfl))))
  show wpAny M A (forIn [] _ _) _ _ _
  rw [List.forIn_nil]
  refine wpAny_pure (wpAny_pure ?_)
  simp only [newGenerator, newFields]
  refine wpAny_bind (wpAny_newGen (wpAny_bind (wpAny_mkText (wpAny_bind (wpAny_mkText (wpAny_newObj_type ?_ (by size_fits)))))))
  exact h₄ h' hn' hs'
end
section
variable {X : Cx} {pins : List (Addr × Obj)} {σ : L2.St} {H : Hp} {s : Shared}
theorem g_startC {scope : Scope} {own : List (Str × Nat)} {fp : List Addr} {A : Around} {code : Value} {it : Value} {ga : Addr} {gobj : Obj} {h5 : Heap} {g5 : Array GenState} {d5 : Drawn} {t5 : Nat}
    (I : Inv X pins σ H s) (ok : GOkC X.N X.env.scope scope own) (hN : X.N.Nodup) (hd : A.handled = none)
    (hA : A.frames = some (genv X scope s.heap.objs.size code :: X.stack))
    (hfp : ∀ b ∈ fp, FpOk X pins H b ∧ b < s.heap.objs.size)
    (keep : ∀ b o, s.heap.get? b = some o → h5.get? b = some o)
    (hns : h5.Ns s.heap.objs.size (fun y => if y = ".0" then some it else none))
    (hnew : ∀ y c, (y, c) ∈ cellsFrom (s.heap.objs.size + 1) scope.names (cloFrom X.env.cells scope.names []) → (y, c) ∈ cloFrom X.env.cells scope.names [] ∨ h5.IsCell c none ∧ s.heap.objs.size + 1 ≤ c)
    (hga : s.heap.objs.size < ga) (hgo : h5.get? ga = some gobj) (hgc : ∀ v, gobj.data ≠ .cell v) (hb : AllBare g5) :
    Inv (gCy X s H A scope (genv X scope s.heap.objs.size code) fp [(ga, gobj)]) [] (wipe σ (own.map (·.2))) H
      { s with heap := h5, gens := g5, drawn := d5, toks := t5 } := by
  have hfree : ∀ y ∈ scope.names, y.2 = .free → ∃ c, X.env.cells.lookup y.1 = some c := fun y hy e => by
    rcases ok.free y hy e with k | k
    · exact I.ok.has _ (.inl k)
    · exact I.ok.has _ (.inr k)
  -- a captured cell
  have cm0 : ∀ {y c}, (y, c) ∈ cloFrom X.env.cells scope.names [] → X.env.cells.lookup y = some c := fun {y c} e => by
    rcases cloFrom_mem e with hm | ⟨h1, h2⟩
    · cases hm
    · obtain ⟨c1, hc⟩ := hfree _ h1 rfl
      have hc : X.env.cells.lookup y = some c1 := hc
      rw [hc] at h2
      rw [hc]
      exact congrArg some h2.symm
  have clt : ∀ {y c}, X.env.cells.lookup y = some c → c < s.heap.objs.size := fun {y c} e => by
    obtain ⟨v, z⟩ := I.cell y c e
    exact z.lt
  have lt0 : ∀ p ∈ cloFrom X.env.cells scope.names [], p.2 < s.heap.objs.size + 1 := fun p hp => Nat.lt_succ_of_lt (clt (cm0 (y := p.1) (c := p.2) hp))
  -- one of ours, or captured
  have cm : ∀ {y c}, (cellsFrom (s.heap.objs.size + 1) scope.names (cloFrom X.env.cells scope.names [])).lookup y = some c → X.env.cells.lookup y = some c ∨ (y, NameKind.cell) ∈ scope.names ∧ s.heap.objs.size + 1 ≤ c := fun {y c} e => by
    rcases cellsFrom_mem (PySem.mem_of_lookup e) with z | z
    · exact .inl (cm0 z)
    · exact .inr z
  have cn : ∀ {y c}, (cellsFrom (s.heap.objs.size + 1) scope.names (cloFrom X.env.cells scope.names [])).lookup y = some c → (X.env.cells.lookup y = some c) ∨ (h5.IsCell c none ∧ s.heap.objs.size + 1 ≤ c) := fun {y c} e => by
    rcases hnew y c (PySem.mem_of_lookup e) with z | z
    · exact .inl (cm0 z)
    · exact .inr z
  have has : ∀ y, (y, NameKind.cell) ∈ scope.names ∨ (y, NameKind.free) ∈ scope.names → ∃ c, (cellsFrom (s.heap.objs.size + 1) scope.names (cloFrom X.env.cells scope.names [])).lookup y = some c := fun y h => by
    rcases h with h | h
    · obtain ⟨c, hc⟩ := cellsFrom_own (n := s.heap.objs.size + 1) (acc := cloFrom X.env.cells scope.names []) h
      exact mem_lookup hc
    · exact mem_lookup (cellsFrom_acc (cloFrom_has (cells := X.env.cells) (acc := []) h))
  have okG : (gCy X s H A scope (genv X scope s.heap.objs.size code) fp [(ga, gobj)]).Ok := by
    refine ⟨I.ok.mod, ok.kind, I.ok.glob, rfl, Nat.le_refl _, fun y z c e1 e2 => ?_, fun y hy => ?_, fun y c z e => ?_, fun _ => hd, hA, .inr ⟨rfl, rfl⟩,
      fun b hb => ⟨Nat.ne_of_lt (hfp b hb).2, fun y c e z => ?_⟩, I.bs, Nat.le_trans I.ok.bsz I.sz, fun b o e hb => ?_, fun b hb z => ?_, I.stack, I.stkFree⟩
    · have q1 := cm e1
      have q2 := cm e2
      rcases q1 with q1 | ⟨_, q1⟩ <;> rcases q2 with q2 | ⟨_, q2⟩
      · exact I.ok.inj y z c q1 q2
      · exact absurd (clt q1) (Nat.not_lt.mpr (Nat.le_of_succ_le q2))
      · exact absurd (clt q2) (Nat.not_lt.mpr (Nat.le_of_succ_le q1))
      · exact cells_inj (s.heap.objs.size + 1) scope.names (s.heap.objs.size + 1) _ lt0 (fun y z c h1 h2 hc => absurd (lt0 _ h1) (Nat.not_lt.mpr hc)) y z c (PySem.mem_of_lookup e1) (PySem.mem_of_lookup e2) q1
    · have hy : scope.names.lookup y = some .cell ∨ scope.names.lookup y = some .free := hy
      exact has y (hy.imp PySem.mem_of_lookup PySem.mem_of_lookup)
    · have z : (scope.names.lookup y == some NameKind.cell) = true := z
      have z : scope.names.lookup y = some .cell := by simpa using z
      rcases cellsFrom_mem (PySem.mem_of_lookup e) with q | ⟨_, q⟩
      · rcases cloFrom_mem q with q | ⟨q, _⟩
        · cases q
        · have q := ok.uniq _ q
          rw [z] at q
          cases q
      · exact Nat.le_of_succ_le q
    · rcases cm e with q | ⟨_, q⟩
      · exact (hfp b hb).1.2.2.2.2.1 y c q z
      · have := (hfp b hb).2
        rw [← z] at this
        exact absurd this (Nat.not_lt.mpr (Nat.le_of_succ_le q))
    · rcases (hfp b hb).1.2.2.2.1 with z | z
      · exact I.ok.noex b o e z
      · exact absurd (Nat.lt_of_lt_of_le (Heap.lt_size e) (Nat.le_trans I.ok.bsz z)) (Nat.lt_irrefl _)
    · rcases List.mem_cons.mp (I.stkSub b z) with z | z
      · exact (hfp b hb).1.2.1 z
      · exact (hfp b hb).1.2.2.1 z
  refine ⟨okG, rfl, hb, Un.kept keep, ⟨_, hns, fun i y av e1 e2 e3 => ?_⟩, fun y c e => ?_, I.hok.fresh (Nat.le_refl _), fun y c e => ?_, fun p hp => ?_, I.hok.kept keep, by rw [wipe_length]; exact I.len⟩
  · obtain ⟨e2, hne⟩ := wipe_some e2
    have e3 : Vis scope y := e3
    have notOwn : ¬ (scope.names.lookup y = some .local ∨ scope.names.lookup y = some .cell) := fun k => by
      have ko : y ∈ own.map (·.1) ∨ y ∉ X.N := by
        rcases k with k | k
        · exact ok.own _ (PySem.mem_of_lookup k) (.inl rfl)
        · exact ok.own _ (PySem.mem_of_lookup k) (.inr rfl)
      rcases ko with e' | e'
      · obtain ⟨p, hp, hpy⟩ := List.mem_map.mp e'
        have e4 := ok.ix p hp
        have e5 : p.1 = y := hpy
        rw [e5] at e4
        exact hne (List.mem_map.mpr ⟨p, hp, nodup_ix hN e4 e1⟩)
      · exact e' (List.mem_of_getElem? e1)
    have fr : scope.names.lookup y = some .free := by
      rcases e3 with k | k | k
      · exact absurd (.inl k) notOwn
      · exact absurd (.inr k) notOwn
      · exact k
    obtain ⟨m, hn, hl⟩ := I.loc
    have vis : Vis X.env.scope y := (ok.free _ (PySem.mem_of_lookup fr) rfl).elim (fun k => .inr (.inl k)) (fun k => .inr (.inr k))
    obtain ⟨w, r, q⟩ := hl i y av e1 e2 vis
    obtain ⟨c, hc⟩ := has y (.inr (PySem.mem_of_lookup fr))
    refine ⟨w, r, .inr ⟨.inr fr, c, hc, ?_⟩⟩
    have hc' : X.env.cells.lookup y = some c := by
      rcases cm hc with z | ⟨z, _⟩
      · exact z
      · have u := ok.uniq _ z
        rw [show scope.names.lookup y = some NameKind.cell from u] at fr
        cases fr
    rcases q with ⟨k, _⟩ | ⟨_, c', e', z⟩
    · have k : X.env.scope.names.lookup y = some .local := k
      rcases ok.free _ (PySem.mem_of_lookup fr) rfl with k' | k' <;> rw [show X.env.scope.names.lookup y = _ from k'] at k <;> cases k
    · rw [hc'] at e'
      cases e'
      exact z.keeps keep
  · rcases cn e with q | ⟨q, _⟩
    · obtain ⟨v, z⟩ := I.cell y c q
      exact ⟨v, z.keeps keep⟩
    · exact ⟨none, q⟩
  · rcases cn e with q | ⟨_, q⟩
    · exact I.freeC y c q
    · exact I.hok.fresh (Nat.le_of_succ_le q)
  · have hp' : p ∈ [(ga, gobj)] := by simpa using hp
    rw [List.mem_singleton.mp hp']
    refine ⟨hgo, I.hok.fresh (Nat.le_of_lt hga), Nat.ne_of_gt hga, fun z => ?_, hgc⟩
    obtain ⟨_, o, ho, _⟩ := I.stack.mem z
    have h2 := I.stkFree
    rcases List.mem_cons.mp (I.stkSub ga z) with z | z
    · have := I.lt
      rw [← z] at this
      exact absurd (Nat.lt_trans hga this) (Nat.lt_irrefl _)
    · exact I.nofs (Nat.le_of_lt hga) z
end
end Gx
end Text_Gn
section Text_Ge
set_option Elab.async false
set_option linter.all false
set_option maxRecDepth 100000
set_option maxHeartbeats 4000000
namespace Gx
open PySem PySem.Spec PyProof.Rows L2 GxR
abbrev gC (X : Cx) (B : Around) (scope : Scope) (s : Shared) (H : Hp) (C : Addr) (cd : Value) (fp : List Addr) (pn : List (Addr × Obj)) : Cx := gCy X s H B scope (genv X scope C cd) fp pn
/-- the parts of a generator expression in its own frame: target, tests, element -/
structure Parts (X : Cx) (k : Nat) (scope : Scope) (tg : Expr) (ifs : List Expr) (elt : Expr) (g : TG) (tt : TT) (te : Value → TE) : Prop where
  g : ∀ (B : Around) (s : Shared) (H : Hp) (C : Addr) (cd : Value) (fp : List Addr) (pn : List (Addr × Obj)), Room k B → PG (gC X B scope s H C cd fp pn) tg g
  t : ∀ (B : Around) (s : Shared) (H : Hp) (C : Addr) (cd : Value) (fp : List Addr) (pn : List (Addr × Obj)), Room k B → PTs (gC X B scope s H C cd fp pn) ifs tt
  e : ∀ (B : Around) (s : Shared) (H : Hp) (C : Addr) (cd : Value) (fp : List Addr) (pn : List (Addr × Obj)), Room k B → PE (gC X B scope s H C cd fp pn) elt (te cd)
/-- a place further in, as a generator is woken from there -/
structure Inn (k : Nat) (A B : Around) : Prop where
  fr : B.frames = A.frames
  hd : B.handled = none
  room : ∀ env, Room k (B.deeper env)
  dep : B.depth < recursionLimit

section
variable {X : Cx} {pins : List (Addr × Obj)} {σ : L2.St} {H : Hp} {s : Shared}
theorem gen_madeC {elt tg iter : Expr} {ifs : List Expr} {scope : Scope} {own : List (Str × Nat)} {pos : Pos} {wi : TI} {g : TG} {tt : TT} {te : Value → TE} {k : Nat} {B : Around} {Pre : Hp → Prop} {Post : Hp → Hp → Value → Prop} {Rd : It → Value → Hp → Prop} {Q' : Value → Shared → Prop}
    (hd : X.A.depth < recursionLimit) (hB : Inn k X.A B) (bm : ∃ P, X.base.BuiltinsAt X.mg P) (mk : MkC X pos (X.env.qual ++ "<genexpr>") scope Pre Post) (hN : X.N.Nodup) (ok : GOkC X.N X.env.scope scope own) (hi : PI X tg iter wi)
    (pp : Parts X k scope tg ifs elt g tt te) (hs : ∀ v, genFold iter X.env v = pure v) (I : Inv X pins σ H s) (h : wi σ H fun J H1 => Pre H1 ∧ ∀ H2 cd, Post H1 H2 cd → Rd J cd H2)
    (hQ : ∀ (Z : Cx) (ga : Addr) (gn : Nat) (cd : Value) (code : Code) (J : It) (H4 : Hp) (s5 : Shared), Z.prog = X.prog → Z.w = X.w → Z.K = X.K → s5.heap.IsGen ga gn → s5.gens[gn]? = some (.fresh code) → ga < s5.heap.objs.size →
      Inv Z [] (wipe σ (own.map (·.2))) H4 s5 → (∀ {ps σ' H'} {s' : Shared}, Inv Z ps σ' H' s' → s'.heap.IsGen ga gn) → (∀ {ps σ' H'} {s' : Shared}, Inv Z ps σ' H' s' → Inv X pins σ H' s') → Rd J cd H4 →
      (∀ {C : Hp → Con} {F : Lef} {r : Shared → Hp → Prop} {Qe : Hp → Prop} {W : Nat → Nat → Hp → Prop} (m n : Nat), Keeps r C F → TurnK J g tt (te cd) (own.map (·.2)) (wipe σ (own.map (·.2))) C F Qe W → m + 1 ≤ n → ∀ s6 H6, Inv Z [] (wipe σ (own.map (·.2))) H6 s6 → W 0 m H6 →
        (∀ b o, s5.heap.get? b = some o → H4 b = none → s6.heap.get? b = some o) → (∀ b, b < s5.heap.objs.size → H4 b = none → H6 b = none) → r s6 H6 → (GenState.fresh code).Goes (model Z.prog Z.w) B (RK Z Qe r) (YK Z C r) n (.send .none) s6) → Q' (.ref ga) s5) :
    wpAny (model X.prog X.w) X.A (eval (.GeneratorExp elt [⟨tg, iter, ifs, 0⟩] scope pos) X.env) Q' X.xe s := by
  have hfree : ∀ y ∈ scope.names, y.2 = .free → ∃ c, X.env.cells.lookup y.1 = some c := fun y hy e => by
    rcases ok.free y hy e with q | q
    · exact I.ok.has _ (.inl q)
    · exact I.ok.has _ (.inr q)
  refine genexp_makeC ok.co (closure_ok hfree) ok.dot ok.kind hd ?_ hs
  refine thn (hi.run pins s σ H _ I h) fun xv s1 hx => thn hx fun itv s2 h2 => ?_
  obtain ⟨it, fp, tn, J, H2, e, I2, T, st2, f2, hpre, hq⟩ := h2
  subst e
  refine ⟨I2.nolimit, ?_⟩
  refine mk pins σ H2 s2 _ _ I2 hpre fun cd s4 H4 I4 post fr kp => ?_
  have hlt2 : ∀ b ∈ fp, b < s2.heap.objs.size := fun b hb => by
    obtain ⟨o, e, _⟩ := T.obj _ _ st2 b hb
    exact Heap.lt_size e
  have st4 : tn 0 s4.heap := T.keep _ _ _ st2 fun b hb o e => kp b o (f2 b hb).1 e
  have f4 : ∀ b ∈ fp, FpOk X pins H4 b := fun b hb => by
    obtain ⟨z0, z1, z2, z3, z4, z5⟩ := f2 b hb
    exact ⟨fr b z0 (hlt2 b hb), z1, z2, z3, z4, z5⟩
  obtain ⟨P0, bm, ob, e1, e2, e3, e4, e5, e6, e7, e8⟩ := bm
  refine wpAny_builtinsFor (m := X.mg) (by rw [I4.ok.glob]; exact I4.mod.glob.keeps I4.bk) e1 e2 (I4.bk _ _ e5) e6 e7 e8 ?_
  intro h' hn' hs'
  generalize hgobj : ({ cls := .type "generator", data := .fields #[.int s4.gens.size 0, .str "<genexpr>" (s4.toks + 1), .str (X.env.qual ++ "<genexpr>") (s4.toks + 1 + 1)] } : Obj) = gobj
  have hsz : s4.heap.objs.size + 1 ≤ h'.objs.size := by
    rw [hs'.1]
    have := pushCells_size scope.names (s4.heap.push { cls := .type "frame", data := .dict #[] })
    rw [Heap.size_push] at this
    exact this
  have k5 : ∀ b o, s4.heap.get? b = some o → (h'.push gobj).get? b = some o := fun b o e =>
    Heap.get?_push_of_some _ (hs'.extBut b o (Nat.ne_of_lt (Heap.lt_size e)) (pushCells_keeps _ _ _ _ (Heap.get?_push_of_some _ e)))
  have hnew : ∀ y c, (y, c) ∈ cellsFrom (s4.heap.objs.size + 1) scope.names (cloFrom X.env.cells scope.names []) → (y, c) ∈ cloFrom X.env.cells scope.names [] ∨ (h'.push gobj).IsCell c none ∧ s4.heap.objs.size + 1 ≤ c := fun y c m => by
    have q := cells_new scope.names (s4.heap.push { cls := .type "frame", data := .dict #[] }) (cloFrom X.env.cells scope.names []) y c
    rw [Heap.size_push] at q
    rcases q m with z | ⟨⟨o, z1, z2⟩, z3⟩
    · exact .inl z
    · exact .inr ⟨⟨o, Heap.get?_push_of_some _ (hs'.extBut c o (Nat.ne_of_gt z3) z1), z2⟩, z3⟩
  have hfp4 : ∀ b ∈ fp, FpOk X pins H4 b ∧ b < s4.heap.objs.size := fun b hb => by
    obtain ⟨o, e, _⟩ := T.obj _ _ st4 b hb
    exact ⟨f4 b hb, Heap.lt_size e⟩
  have hgo : (h'.push gobj).get? h'.objs.size = some gobj := Heap.get?_push_size _ (by rw [← hgobj]; rfl)
  have hgc : ∀ v, gobj.data ≠ .cell v := fun v z => by
    rw [← hgobj] at z
    cases z
  have hb5 : AllBare (s4.gens.push (.fresh (.compStart (.GeneratorExp elt [⟨tg, iter, ifs, 0⟩] scope pos) 0 (.ref it) .none (genv X scope s4.heap.objs.size cd)))) := I4.bare.push rfl
  have hga : s4.heap.objs.size < h'.objs.size := by omega
  have J0 := g_startC (A := B.deeper (genv X scope s4.heap.objs.size cd)) (d5 := s4.drawn) (t5 := s4.toks + 1 + 1 + 1) I4 ok hN hB.hd
    (Around.frames_deeper (by rw [hB.fr]; exact I4.ok.frames)) hfp4 k5 (hn'.push _) hnew hga hgo hgc hb5
  have isg : ∀ {ps σ' H'} {s' : Shared}, Inv (gC X (B.deeper (genv X scope s4.heap.objs.size cd)) scope s4 H4 s4.heap.objs.size cd fp [(h'.objs.size, gobj)]) ps σ' H' s' → s'.heap.IsGen h'.objs.size s4.gens.size := fun {ps σ' H' s'} J => by
    have e := (J.pin (h'.objs.size, gobj) (List.mem_append_left _ List.mem_cons_self)).1
    exact ⟨gobj, _, _, e, by rw [← hgobj], by rw [← hgobj], by rw [← hgobj]⟩
  have hroom := hB.room (genv X scope s4.heap.objs.size cd)
  refine hQ (gC X (B.deeper (genv X scope s4.heap.objs.size cd)) scope s4 H4 s4.heap.objs.size cd fp [(h'.objs.size, gobj)]) h'.objs.size s4.gens.size cd _ J H4 _ rfl rfl rfl (isg J0) (Array.getElem?_push_size ..) ?_ J0 isg (fun {ps σ' H' s'} J => ?_) (hq H4 cd post) (fun {C F r Qe W} m n hC hW hmn s6 H6 I6 w0 kp6 fr6 r6 => ⟨rfl, ?_⟩)
  · show h'.objs.size < (h'.push gobj).objs.size
    rw [Heap.size_push]
    exact Nat.lt_succ_self _
  · exact I4.call' (ch := fp) J.os J.base J.hok J.bare fun b hb => ⟨(f4 b hb).2.2.2.1, (f4 b hb).2.1, (f4 b hb).2.2.2.2.1, (f4 b hb).2.2.2.2.2⟩
  · have hlt5 : ∀ b ∈ fp, b < (h'.push gobj).objs.size := fun b hb => by
      rw [Heap.size_push]
      exact Nat.lt_succ_of_lt (Nat.lt_trans (hfp4 b hb).2 hga)
    refine segV_first (A := B) (m := m) rfl rfl ok.co rfl rfl (fun p hp b hb => ?_) T (pp.g _ _ _ _ _ _ _ hroom) (pp.t _ _ _ _ _ _ _ hroom) (pp.e _ _ _ _ _ _ _ hroom) hW hC n s6 s6 H6 hmn I6 ?_ (fun b hb => fr6 b (hlt5 b hb) (f4 b hb).1) w0 r6
    · rw [List.mem_singleton.mp hp]
      exact Nat.ne_of_gt (Nat.lt_trans (hfp4 b hb).2 hga)
    · exact T.keep _ _ _ st4 fun b hb o e => kp6 b o (k5 b o e) (f4 b hb).1
end
end Gx
end Text_Ge
section Text_Gf
set_option Elab.async false
set_option linter.all false
set_option maxRecDepth 100000
set_option maxHeartbeats 4000000
namespace Gx
open PySem PySem.Spec PyProof.Rows L2 GxR
/-- what any (neg false), all (neg true) do with an item -/
def cB (neg : Bool) (Q : VK) : Con := fun y H k => ∃ c, y = .bl c ∧ if c = neg then k H else Q (.bl (!neg)) H
theorem cB_mono (neg : Bool) (Q : VK) : (cB neg Q).Mono := fun y H k k' hk h => by
  obtain ⟨c, e, q⟩ := h
  refine ⟨c, e, ?_⟩
  by_cases z : c = neg
  · rw [if_pos z] at q ⊢
    exact hk _ q
  · rw [if_neg z] at q ⊢
    exact q
section
variable {Z : Cx}
/-- any's loop over a generator of ours -/
theorem any_turnsV {A : Around} {R : Result → Shared → Prop} {ga : Addr} {g : Nat} {Q : VK} (hh : A.handled = none) (hd : A.depth < recursionLimit)
    (hG : ∀ {ps σ' H'} {s' : Shared}, Inv Z ps σ' H' s' → s'.heap.IsGen ga g)
    (hR : ∀ (b : Bool) ps σ' H' s', Inv Z ps σ' H' s' → Q (.bl b) H' → R (.ok (.ret (.bool b))) s') :
    ∀ (n : Nat) (s : Shared), s.heap.IsGen ga g → s.heap.NoLimit →
      (∃ gs, s.gens[g]? = some gs ∧ gs.Goes (model Z.prog Z.w) A.in1.in1 (RV Z fun H => Q (.bl false) H) (YV Z (cB false Q)) n (.send .none) (s.setGen g .running)) →
      codeAny (model Z.prog Z.w) A (.builtin "any.loop" ⟨[.ref ga], []⟩) R s := by
  intro n
  induction n with
  | zero =>
    intro s hg hl hgo
    obtain ⟨gs, hgs, hgo⟩ := hgo
    refine codeAny_builtin F.entry_any_loop ?_
    rw [Around.under_plainId F.plain_any_loop _]
    show wpAny _ A.in1 (pyNext (.ref ga) >>= _) _ _ s
    refine wpAny_bind (wpAny_pyNext_genexpQ (A := A.in1) (P := fun _ _ s₁ => ∃ σ' H', Inv Z [] σ' H' s₁ ∧ Q (.bl false) H' ∧ True) hh hl hd hg hgs hgo (fun v s₁ gs' hb hv => ?_) (fun s₁ hp h' hk => ?_))
    · obtain ⟨y, ps, σ', H', _, ry, I, _, c, ey, q⟩ := hv
      subst ey
      obtain rfl : v = Value.bool c := ry
      cases c with
      | false => exact (Eq.mp (if_pos rfl) q s₁ I trivial).elim
      | true =>
        refine wpAny_bind (wpAny_holding (wpAny_truthy_bool (wpAny_bind (wpAny_letGo ?_))))
        simp only [if_true]
        refine wpAny_bind (wpAny_rule (wpAny_pure ?_))
        exact hR true ps σ' H' _ ((like_setGen I.bare hb).inv I) (Eq.mp (if_neg (show ¬ (true = false) by decide)) q)
    · obtain ⟨σ', H', I, q, _⟩ := hp
      refine wpAny_bind (wpAny_rule (wpAny_pure ?_))
      exact hR false [] σ' H' _ (((like_setGen (g := g) (x := .finished) I.bare rfl).inv I).kept (t' := s₁.toks) hk) q
  | succ n ih =>
    intro s hg hl hgo
    obtain ⟨gs, hgs, hgo⟩ := hgo
    have hgl : g < s.gens.size := (Array.getElem?_eq_some_iff.mp hgs).1
    refine codeAny_builtin F.entry_any_loop ?_
    rw [Around.under_plainId F.plain_any_loop _]
    show wpAny _ A.in1 (pyNext (.ref ga) >>= _) _ _ s
    refine wpAny_bind (GenW.wpAny_gsz (n := g + 1) hgl (wpAny_pyNext_genexpQ (A := A.in1) (P := fun _ _ s₁ => ∃ σ' H', Inv Z [] σ' H' s₁ ∧ Q (.bl false) H' ∧ True) hh hl hd hg hgs hgo (fun v s₁ gs' hb hv hsz => ?_) (fun s₁ hp h' hk hsz => ?_)))
    · obtain ⟨y, ps, σ', H', _, ry, I, _, c, ey, q⟩ := hv
      subst ey
      obtain rfl : v = Value.bool c := ry
      have L1 := like_setGen (g := g) I.bare hb
      have I1 := L1.inv I
      refine wpAny_bind (wpAny_holding (wpAny_truthy_bool (wpAny_bind (wpAny_letGo ?_))))
      cases c with
      | false =>
        simp only [Bool.false_eq_true, if_false]
        have hsz1 : g < s₁.gens.size := by
          have q : (s₁.setGen g gs').gens.size = s₁.gens.size := GenW.setGen_size _ _ _
          have hsz' : g + 1 ≤ (s₁.setGen g gs').gens.size := hsz
          omega
        refine wpAny_pure ⟨plainId_quiet F.plain_any_loop _, ih _ (hG I1) I1.nolimit ⟨gs', setGen_at hsz1, ?_⟩⟩
        exact Eq.mp (if_pos rfl) q _ ((like_trans L1 (like_setGen L1.bare rfl)).inv I) trivial
      | true =>
        simp only [if_true]
        refine wpAny_bind (wpAny_rule (wpAny_pure ?_))
        exact hR true ps σ' H' _ I1 (Eq.mp (if_neg (show ¬ (true = false) by decide)) q)
    · obtain ⟨σ', H', I, q, _⟩ := hp
      refine wpAny_bind (wpAny_rule (wpAny_pure ?_))
      exact hR false [] σ' H' _ (((like_setGen (g := g) (x := .finished) I.bare rfl).inv I).kept (t' := s₁.toks) hk) q

/-- all's loop over a generator of ours -/
theorem all_turnsV {A : Around} {R : Result → Shared → Prop} {ga : Addr} {g : Nat} {Q : VK} (hh : A.handled = none) (hd : A.depth < recursionLimit)
    (hG : ∀ {ps σ' H'} {s' : Shared}, Inv Z ps σ' H' s' → s'.heap.IsGen ga g)
    (hR : ∀ (b : Bool) ps σ' H' s', Inv Z ps σ' H' s' → Q (.bl b) H' → R (.ok (.ret (.bool b))) s') :
    ∀ (n : Nat) (s : Shared), s.heap.IsGen ga g → s.heap.NoLimit →
      (∃ gs, s.gens[g]? = some gs ∧ gs.Goes (model Z.prog Z.w) A.in1.in1 (RV Z fun H => Q (.bl true) H) (YV Z (cB true Q)) n (.send .none) (s.setGen g .running)) →
      codeAny (model Z.prog Z.w) A (.builtin "all.loop" ⟨[.ref ga], []⟩) R s := by
  intro n
  induction n with
  | zero =>
    intro s hg hl hgo
    obtain ⟨gs, hgs, hgo⟩ := hgo
    refine codeAny_builtin F.entry_all_loop ?_
    rw [Around.under_plainId F.plain_all_loop _]
    show wpAny _ A.in1 (pyNext (.ref ga) >>= _) _ _ s
    refine wpAny_bind (wpAny_pyNext_genexpQ (A := A.in1) (P := fun _ _ s₁ => ∃ σ' H', Inv Z [] σ' H' s₁ ∧ Q (.bl true) H' ∧ True) hh hl hd hg hgs hgo (fun v s₁ gs' hb hv => ?_) (fun s₁ hp h' hk => ?_))
    · obtain ⟨y, ps, σ', H', _, ry, I, _, c, ey, q⟩ := hv
      subst ey
      obtain rfl : v = Value.bool c := ry
      cases c with
      | true => exact (Eq.mp (if_pos rfl) q s₁ I trivial).elim
      | false =>
        refine wpAny_bind (wpAny_holding (wpAny_truthy_bool (wpAny_bind (wpAny_letGo ?_))))
        simp only [Bool.false_eq_true, if_false]
        refine wpAny_bind (wpAny_rule (wpAny_pure ?_))
        exact hR false ps σ' H' _ ((like_setGen I.bare hb).inv I) (Eq.mp (if_neg (show ¬ (false = true) by decide)) q)
    · obtain ⟨σ', H', I, q, _⟩ := hp
      refine wpAny_bind (wpAny_rule (wpAny_pure ?_))
      exact hR true [] σ' H' _ (((like_setGen (g := g) (x := .finished) I.bare rfl).inv I).kept (t' := s₁.toks) hk) q
  | succ n ih =>
    intro s hg hl hgo
    obtain ⟨gs, hgs, hgo⟩ := hgo
    have hgl : g < s.gens.size := (Array.getElem?_eq_some_iff.mp hgs).1
    refine codeAny_builtin F.entry_all_loop ?_
    rw [Around.under_plainId F.plain_all_loop _]
    show wpAny _ A.in1 (pyNext (.ref ga) >>= _) _ _ s
    refine wpAny_bind (GenW.wpAny_gsz (n := g + 1) hgl (wpAny_pyNext_genexpQ (A := A.in1) (P := fun _ _ s₁ => ∃ σ' H', Inv Z [] σ' H' s₁ ∧ Q (.bl true) H' ∧ True) hh hl hd hg hgs hgo (fun v s₁ gs' hb hv hsz => ?_) (fun s₁ hp h' hk hsz => ?_)))
    · obtain ⟨y, ps, σ', H', _, ry, I, _, c, ey, q⟩ := hv
      subst ey
      obtain rfl : v = Value.bool c := ry
      have L1 := like_setGen (g := g) I.bare hb
      have I1 := L1.inv I
      refine wpAny_bind (wpAny_holding (wpAny_truthy_bool (wpAny_bind (wpAny_letGo ?_))))
      cases c with
      | true =>
        simp only [if_true]
        have hsz1 : g < s₁.gens.size := by
          have q : (s₁.setGen g gs').gens.size = s₁.gens.size := GenW.setGen_size _ _ _
          have hsz' : g + 1 ≤ (s₁.setGen g gs').gens.size := hsz
          omega
        refine wpAny_pure ⟨plainId_quiet F.plain_all_loop _, ih _ (hG I1) I1.nolimit ⟨gs', setGen_at hsz1, ?_⟩⟩
        exact Eq.mp (if_pos rfl) q _ ((like_trans L1 (like_setGen L1.bare rfl)).inv I) trivial
      | false =>
        simp only [Bool.false_eq_true, if_false]
        refine wpAny_bind (wpAny_rule (wpAny_pure ?_))
        exact hR false ps σ' H' _ I1 (Eq.mp (if_neg (show ¬ (false = true) by decide)) q)
    · obtain ⟨σ', H', I, q, _⟩ := hp
      refine wpAny_bind (wpAny_rule (wpAny_pure ?_))
      exact hR true [] σ' H' _ (((like_setGen (g := g) (x := .finished) I.bare rfl).inv I).kept (t' := s₁.toks) hk) q

end
theorem Inn.two {k : Nat} {A : Around} (hr : Room (k + 1) A) : Inn k A A.in1.in1 := ⟨rfl, hr.hd, fun env => Room.g hr env, by have := hr.dp; show A.depth < _; omega⟩
def rdB (neg : Bool) (g : TG) (tt : TT) (te : Value → TE) (vs : List Nat) (σ : L2.St) (Q : VK) : It → Value → Hp → Prop := fun J cd H2 => ∃ W : Nat → Nat → Hp → Prop, (∃ m, W 0 m H2) ∧ TurnG J g tt (te cd) vs (wipe σ vs) Q neg W
/-- any, all of a generator expression, by how its code object is come by -/
def tGenC (Pre : Hp → Prop) (Post : Hp → Hp → Value → Prop) (neg : Bool) (wi : TI) (g : TG) (tt : TT) (te : Value → TE) (vs : List Nat) : TE := fun σ H Q => wi σ H fun J H1 => Pre H1 ∧ ∀ H2 cd, Post H1 H2 cd → rdB neg g tt te vs σ Q J cd H2
section
variable {X : Cx}
theorem pe_anyC {elt tg iter : Expr} {ifs : List Expr} {scope : Scope} {own : List (Str × Nat)} {pos gpos p : Pos} {wi : TI} {g : TG} {tt : TT} {te : Value → TE} {k : Nat} {Pre : Hp → Prop} {Post : Hp → Hp → Value → Prop}
    (hr : Room (k + 1) X.A) (hgl : Gl X "any") (hm : X.mg "any" = none) (bm : ∃ P, X.base.BuiltinsAt X.mg P) (mk : MkC X gpos (X.env.qual ++ "<genexpr>") scope Pre Post) (hN : X.N.Nodup) (ok : GOkC X.N X.env.scope scope own) (hi : PI X tg iter wi)
    (pp : Parts X k scope tg ifs elt g tt te) (hs : ∀ v, genFold iter X.env v = pure v := by intro _; rfl)
    (hst : starEach [.GeneratorExp elt [⟨tg, iter, ifs, 0⟩] scope gpos] X.env = (false, eval (.GeneratorExp elt [⟨tg, iter, ifs, 0⟩] scope gpos) X.env) :: starEach [] X.env := by rfl) :
    PE X (.Call (.Name "any" p) [.GeneratorExp elt [⟨tg, iter, ifs, 0⟩] scope gpos] [] pos) (tGenC Pre Post false wi g tt te (own.map (·.2))) := by
  refine ⟨fun pins s σ H Q I h => ?_⟩
  refine wpAny_Call_Name_kw (ld_blt I hgl hm boot_any ?_)
  refine PyProof.Rows.callWith_builtin1 ?_ hst (by rfl)
  rw [hst]
  show wpAny _ _ (spliced ((false, eval (.GeneratorExp elt [⟨tg, iter, ifs, 0⟩] scope gpos) X.env) :: backTo pos (starEach [] X.env))) _ _ s
  refine Calls.spliced_cons (gen_madeC (Rd := rdB false g tt te (own.map fun q : Str × Nat => q.2) σ Q) (by have := hr.dp; omega) (Inn.two hr) bm mk hN ok hi pp hs I h fun Z ga gn cd code J H4 s5 hp hw hK isg hgs hlt I5 hI back rd go => ?_)
  obtain ⟨W, ⟨m, w0⟩, hW⟩ := rd
  refine Calls.spliced_nil ?_
  refine call_function_tree F.kind_any F.plain_any F.entry_any (F.args_any1 _) ?_
  unfold Builtin.«any»
  refine wpAny_bind (m := oneArg "any" _) (wpAny_pure ?_)
  refine wpAny_bind (wpAny_pyIter_gen isg ?_)
  rw [← hp, ← hw] at *
  refine wpAny_pure ⟨plainId_quiet F.plain_any_loop _, ?_⟩
  refine any_turnsV (Z := Z) (A := X.A) (Q := Q) hr.hd (by have := hr.dp; omega) hI (fun b ps σ' H' s' J q => ?_) (m + 1) s5 isg I5.nolimit ⟨_, hgs, go m (m + 1) (cB_mono _ _).keeps hW (Nat.le_refl _) _ H4 ((like_setGen I5.bare rfl).inv I5) w0 (fun b o e _ => e) (fun b _ e => e) trivial⟩
  exact ⟨.bl b, H', back J, rfl, q⟩
theorem pe_allC {elt tg iter : Expr} {ifs : List Expr} {scope : Scope} {own : List (Str × Nat)} {pos gpos p : Pos} {wi : TI} {g : TG} {tt : TT} {te : Value → TE} {k : Nat} {Pre : Hp → Prop} {Post : Hp → Hp → Value → Prop}
    (hr : Room (k + 1) X.A) (hgl : Gl X "all") (hm : X.mg "all" = none) (bm : ∃ P, X.base.BuiltinsAt X.mg P) (mk : MkC X gpos (X.env.qual ++ "<genexpr>") scope Pre Post) (hN : X.N.Nodup) (ok : GOkC X.N X.env.scope scope own) (hi : PI X tg iter wi)
    (pp : Parts X k scope tg ifs elt g tt te) (hs : ∀ v, genFold iter X.env v = pure v := by intro _; rfl)
    (hst : starEach [.GeneratorExp elt [⟨tg, iter, ifs, 0⟩] scope gpos] X.env = (false, eval (.GeneratorExp elt [⟨tg, iter, ifs, 0⟩] scope gpos) X.env) :: starEach [] X.env := by rfl) :
    PE X (.Call (.Name "all" p) [.GeneratorExp elt [⟨tg, iter, ifs, 0⟩] scope gpos] [] pos) (tGenC Pre Post true wi g tt te (own.map (·.2))) := by
  refine ⟨fun pins s σ H Q I h => ?_⟩
  refine wpAny_Call_Name_kw (ld_blt I hgl hm boot_all ?_)
  refine PyProof.Rows.callWith_builtin1 ?_ hst (by rfl)
  rw [hst]
  show wpAny _ _ (spliced ((false, eval (.GeneratorExp elt [⟨tg, iter, ifs, 0⟩] scope gpos) X.env) :: backTo pos (starEach [] X.env))) _ _ s
  refine Calls.spliced_cons (gen_madeC (Rd := rdB true g tt te (own.map fun q : Str × Nat => q.2) σ Q) (by have := hr.dp; omega) (Inn.two hr) bm mk hN ok hi pp hs I h fun Z ga gn cd code J H4 s5 hp hw hK isg hgs hlt I5 hI back rd go => ?_)
  obtain ⟨W, ⟨m, w0⟩, hW⟩ := rd
  refine Calls.spliced_nil ?_
  refine call_function_tree F.kind_all F.plain_all F.entry_all (F.args_all1 _) ?_
  unfold Builtin.«all»
  refine wpAny_bind (m := oneArg "all" _) (wpAny_pure ?_)
  refine wpAny_bind (wpAny_pyIter_gen isg ?_)
  rw [← hp, ← hw] at *
  refine wpAny_pure ⟨plainId_quiet F.plain_all_loop _, ?_⟩
  refine all_turnsV (Z := Z) (A := X.A) (Q := Q) hr.hd (by have := hr.dp; omega) hI (fun b ps σ' H' s' J q => ?_) (m + 1) s5 isg I5.nolimit ⟨_, hgs, go m (m + 1) (cB_mono _ _).keeps hW (Nat.le_refl _) _ H4 ((like_setGen I5.bare rfl).inv I5) w0 (fun b o e _ => e) (fun b _ e => e) trivial⟩
  exact ⟨.bl b, H', back J, rfl, q⟩
end
end Gx
end Text_Gf
section Text_Gg
set_option Elab.async false
set_option linter.all false
set_option maxRecDepth 100000
set_option maxHeartbeats 4000000
namespace Gx
open PySem PySem.Spec PyProof.Rows L2 GxR
/-- what a list's making does with an item: it is appended to the list at S -/
def cL (S : Addr) : Con := fun y H k => ∃ acc, H S = some (.lst acc) ∧ acc.length < sizeLine ∧ k (upd H S (.lst (acc ++ [y])))
theorem cL_mono (S : Addr) : (cL S).Mono := fun y H k k' hk ⟨acc, e, l, q⟩ => ⟨acc, e, l, hk _ q⟩
section
variable {Z : Cx}
theorem app_len {acc : List V} {y : V} (h : acc.length < sizeLine) : (acc ++ [y]).length ≤ sizeLine := by
  rw [List.length_append, List.length_singleton]
  omega
theorem extend_turnsV {A : Around} {R : Result → Shared → Prop} {ga S : Addr} {g : Nat} {res : Value} {Qe : Hp → Prop} (hh : A.handled = none) (hd : A.depth < recursionLimit)
    (hG : ∀ {ps σ' H'} {s' : Shared}, Inv Z ps σ' H' s' → s'.heap.IsGen ga g) (hR : ∀ σ' H' s', Inv Z [] σ' H' s' → Qe H' → R (.ok (.ret res)) s') :
    ∀ (n : Nat) (s : Shared), s.heap.IsGen ga g → s.heap.NoLimit →
      (∃ gs, s.gens[g]? = some gs ∧ gs.Goes (model Z.prog Z.w) A.in1.in1 (RV Z Qe) (YV Z (cL S)) n (.send .none) (s.setGen g .running)) →
      codeAny (model Z.prog Z.w) A (.builtin "list.extend.loop" ⟨[.ref S, .ref ga, res], []⟩) R s := by
  intro n
  induction n with
  | zero =>
    intro s hg hl hgo
    obtain ⟨gs, hgs, hgo⟩ := hgo
    refine codeAny_builtin F.entry_extend_loop ?_
    rw [Around.under_plainId F.plain_extend_loop _]
    show wpAny _ A.in1 (pyNext (.ref ga) >>= _) _ _ s
    refine wpAny_bind (wpAny_pyNext_genexpQ (A := A.in1) (P := fun _ _ s₁ => ∃ σ' H', Inv Z [] σ' H' s₁ ∧ Qe H' ∧ True) hh hl hd hg hgs hgo (fun v s₁ gs' hb hv => ?_) (fun s₁ hp h' hk => ?_))
    · obtain ⟨y, ps, σ', H', _, ry, I, _, acc, e, hlt, q⟩ := hv
      obtain ⟨z, its, nn, r, hl', e'⟩ := I.lstM e
      exact (q _ (I.lset (f := (·.push v)) (t' := s₁.toks) (its' := its ++ [v]) e e' (by simp) (r.append (.cons ry .nil)) (app_len hlt)) trivial).elim
    · obtain ⟨σ', H', I, q, _⟩ := hp
      exact wpAny_pure (hR σ' H' _ (((like_setGen (g := g) (x := .finished) I.bare rfl).inv I).kept (t' := s₁.toks) hk) q)
  | succ n ih =>
    intro s hg hl hgo
    obtain ⟨gs, hgs, hgo⟩ := hgo
    have hgl : g < s.gens.size := (Array.getElem?_eq_some_iff.mp hgs).1
    refine codeAny_builtin F.entry_extend_loop ?_
    rw [Around.under_plainId F.plain_extend_loop _]
    show wpAny _ A.in1 (pyNext (.ref ga) >>= _) _ _ s
    refine wpAny_bind (GenW.wpAny_gsz (n := g + 1) hgl (wpAny_pyNext_genexpQ (A := A.in1) (P := fun _ _ s₁ => ∃ σ' H', Inv Z [] σ' H' s₁ ∧ Qe H' ∧ True) hh hl hd hg hgs hgo (fun v s₁ gs' hb hv hsz => ?_) (fun s₁ hp h' hk hsz => ?_)))
    · obtain ⟨y, ps, σ', H', _, ry, I, _, acc, e, hlt, q⟩ := hv
      have I1 := (like_setGen (g := g) I.bare hb).inv I
      obtain ⟨z, its, nn, r, hl', e'⟩ := I1.lstM e
      have hsz1 : g < s₁.gens.size := by
        have q : (s₁.setGen g gs').gens.size = s₁.gens.size := GenW.setGen_size _ _ _
        have hsz' : g + 1 ≤ (s₁.setGen g gs').gens.size := hsz
        omega
      have I2 := I1.lset (f := (·.push v)) (t' := s₁.toks) (its' := its ++ [v]) e e' (by simp) (r.append (.cons ry .nil)) (app_len hlt)
      show wpAny _ A.in1 (updateSeq S (·.push v) >>= _) _ _ _
      refine wpAny_bind ?_
      refine wpAny_updateSeq e' rfl (wpAny_pure ⟨plainId_quiet F.plain_extend_loop _, ih _ (hG I2) I2.nolimit ⟨gs', setGen_at (s := s₁) hsz1, q _ ((like_setGen I2.bare rfl).inv I2) trivial⟩⟩) (by rw [List.size_toArray]; omega) (by show (its.toArray.push v).size ≤ _; rw [Array.size_push, List.size_toArray]; omega)
    · obtain ⟨σ', H', I, q, _⟩ := hp
      exact wpAny_pure (hR σ' H' _ (((like_setGen (g := g) (x := .finished) I.bare rfl).inv I).kept (t' := s₁.toks) hk) q)
/-- all items of a generator of ours are collected -/
theorem collect_V {A : Around} {Q : List Value → Shared → Prop} {E : Value → Shared → Prop} {ga : Addr} {g : Nat} {gs : GenState} {σ0 : L2.St} {H4 : Hp} {s : Shared} {Qt : List V → Hp → Prop} (hh : A.handled = none) (hd : A.depth < recursionLimit)
    (hG : ∀ {ps σ' H'} {s' : Shared}, Inv Z ps σ' H' s' → s'.heap.IsGen ga g) (I : Inv Z [] σ0 H4 s) (hgs : s.gens[g]? = some gs) (hlt : ga < s.heap.objs.size)
    (go : ∀ S, H4 S = none → s.heap.objs.size ≤ S → ∃ n, ∀ s6, Inv Z [] σ0 (upd H4 S (.lst [])) s6 → (∀ b o, s.heap.get? b = some o → s6.heap.get? b = some o) →
      gs.Goes (model Z.prog Z.w) A.in1.in1 (RV Z fun H => ∃ acc, H S = some (.lst acc) ∧ Qt acc H) (YV Z (cL S)) n (.send .none) s6)
    (hQ : ∀ acc its σ' H' s', Inv Z [] σ' H' s' → Vals acc its → acc.length ≤ sizeLine → Qt acc H' → Q its s') : wpAny (model Z.prog Z.w) A (collect (.ref ga)) Q E s := by
  have hS : H4 s.heap.objs.size = none := I.hok.fresh (Nat.le_refl _)
  have hSI : s.heap.objs.size ≠ ga := Nat.ne_of_gt hlt
  obtain ⟨n, hgo⟩ := go _ hS (Nat.le_refl _)
  have hg := hG I
  unfold collect
  refine wpAny_bind (wpAny_runValue (codeAny_builtin F.entry_proto_collect ?_))
  rw [Around.under_plainId F.plain_proto_collect _]
  show wpAny _ A.in1 (newList [] >>= fun l => again (.builtin "list.__iadd__" ⟨[l, .ref ga], []⟩)) _ _ s
  refine wpAny_bind (wpAny_newObj_type ?_)
  refine wpAny_pure ⟨plainId_quiet F.plain_list_iadd _, codeAny_builtin F.entry_list_iadd ?_⟩
  rw [Around.under_plainId F.plain_list_iadd _]
  have kp1 : ∀ b o, s.heap.get? b = some o → (s.heap.push { cls := .type "list", data := .seq ([] : List Value).toArray }).get? b = some o := fun b o e => Heap.get?_push_of_some _ e
  have hg1 : (s.heap.push { cls := .type "list", data := .seq ([] : List Value).toArray }).IsGen ga g := hg.keeps kp1
  show wpAny _ A.in1 (Builtin.List.listExtendWith (.ref s.heap.objs.size) (.ref ga) (.ref s.heap.objs.size)) _ _ _
  unfold Builtin.List.listExtendWith
  refine wpAny_bind (wpAny_typeOf (Heap.IsGen.typeIs (s := { s with heap := _ }) hg1) ?_)
  have h1 : Builtin.List.listSameRef (.ref s.heap.objs.size) (.ref ga) = false := by simp [Builtin.List.listSameRef, hSI]
  have h2 : (Value.type "generator" == Value.type "list") = false := by decide
  have h3 : (Value.type "generator" == Value.type "tuple") = false := by decide
  simp only [h1, h2, h3, Bool.or_false, Bool.false_eq_true, if_false]
  refine wpAny_bind (wpAny_pyIter_gen (s := { s with heap := _ }) hg1 ?_)
  refine wpAny_bind (wpAny_holding ?_)
  unfold Builtin.List.listLengthHint
  refine wpAny_bind (wpAny_specialOf (Heap.IsGen.typeIs (s := { s with heap := _ }) hg1) F.gen_no_len ?_)
  show wpAny _ A.in1 (specialOf (Value.ref ga) (Str.ofString "__length_hint__") >>= _) _ _ _
  refine wpAny_bind (wpAny_specialOf (Heap.IsGen.typeIs (s := { s with heap := _ }) hg1) F.gen_no_hint ?_)
  refine wpAny_pure ?_
  show wpAny _ A.in1 (rule "list.extend.makes-room" >>= fun _ => Builtin.List.listTouch (.ref s.heap.objs.size) >>= fun _ =>
    again (.builtin "list.extend.loop" ⟨[.ref s.heap.objs.size, .ref ga, .ref s.heap.objs.size], []⟩)) _ _ _
  refine wpAny_bind (wpAny_rule ?_)
  have hS₁ : (s.heap.push { cls := .type "list", data := .seq ([] : List Value).toArray }).get? s.heap.objs.size = some { cls := .type "list", data := .seq ([] : List Value).toArray } := Heap.get?_push_size _ rfl
  refine wpAny_bind ?_
  show wpAny _ A.in1 (updateSeq s.heap.objs.size (·.push .none) >>= fun _ => updateSeq s.heap.objs.size (·.pop)) _ _ _
  refine wpAny_bind (wpAny_updateSeq hS₁ rfl ?_)
  have hS₂ := Heap.get?_update_self (Obj.mapSeq (·.push Value.none)) hS₁ rfl
  refine wpAny_updateSeq hS₂ rfl ?_
  have hS₃ := Heap.get?_update_self (Obj.mapSeq (·.pop)) hS₂ rfl
  have oth : ∀ b o, s.heap.get? b = some o →
      (((s.heap.push { cls := .type "list", data := .seq ([] : List Value).toArray }).update s.heap.objs.size (Obj.mapSeq (·.push Value.none))).update s.heap.objs.size (Obj.mapSeq (·.pop))).get? b = some o :=
    fun b o e => (Heap.get?_update_other _ _ (Nat.ne_of_gt (Heap.lt_size e))).trans ((Heap.get?_update_other _ _ (Nat.ne_of_gt (Heap.lt_size e))).trans (kp1 b o e))
  have I1 := I.laid (o := .lst []) (t' := s.toks) oth (Nat.le_refl _) ⟨Nat.zero_le _, [], _, .nil, hS₃⟩
  refine wpAny_pure ⟨plainId_quiet F.plain_extend_loop _, extend_turnsV (Qe := fun H => ∃ acc, H s.heap.objs.size = some (.lst acc) ∧ Qt acc H) hh hd hG (fun σ' H' s' J q => ?_) n _ (hG I1) I1.nolimit ⟨gs, hgs, hgo _ ((like_setGen I1.bare rfl).inv I1) oth⟩⟩
  obtain ⟨acc, e, qt⟩ := q
  obtain ⟨z, its, nn, r, _, e'⟩ := J.lstM e
  show wpAny _ A (load s.heap.objs.size >>= _) _ _ s'
  refine wpAny_bind (wpAny_load e' ?_)
  exact wpAny_pure (hQ acc its σ' H' s' J r z qt)
end
end Gx
end Text_Gg
section Text_Gh
set_option Elab.async false
set_option linter.all false
set_option maxRecDepth 100000
set_option maxHeartbeats 4000000
namespace Gx
open PySem PySem.Spec PyProof.Rows L2 GxR
open AutoSeq1 (wpAny_loadPart')
section
variable {Z : Cx}
theorem code_tuple_V {A : Around} {Q₁ E : Value → Shared → Prop} {ga : Addr} {g : Nat} {gs : GenState} {σ0 : L2.St} {H4 : Hp} {s : Shared} {Qt : List V → Hp → Prop} (hh : A.handled = none) (hd : A.depth < recursionLimit)
    (hG : ∀ {ps σ' H'} {s' : Shared}, Inv Z ps σ' H' s' → s'.heap.IsGen ga g) (I : Inv Z [] σ0 H4 s) (hgs : s.gens[g]? = some gs) (hlt : ga < s.heap.objs.size)
    (go : ∀ S, H4 S = none → s.heap.objs.size ≤ S → ∃ n, ∀ s6, Inv Z [] σ0 (upd H4 S (.lst [])) s6 → (∀ b o, s.heap.get? b = some o → s6.heap.get? b = some o) →
      gs.Goes (model Z.prog Z.w) A.in1.in1.in1 (RV Z fun H => ∃ acc, H S = some (.lst acc) ∧ Qt acc H) (YV Z (cL S)) n (.send .none) s6)
    (hQ : ∀ acc its σ' H' s', Inv Z [] σ' H' s' → Vals acc its → acc.length ≤ sizeLine → Qt acc H' → Q₁ (.ref s'.heap.objs.size) { s' with heap := s'.heap.push { cls := .type "tuple", data := .seq its.toArray } }) :
    codeAny (model Z.prog Z.w) A (.call (.builtin "tuple.__new__") ⟨[.type "tuple", .ref ga], []⟩) (wants Q₁ E) s := by
  refine codeAny_of_tree ?_
  show wpAny _ A.in1 (do checkBuiltinCall "tuple.__new__" ⟨[.type "tuple", .ref ga], []⟩; again (.builtin "tuple.__new__" ⟨[.type "tuple", .ref ga], []⟩)) _ _ s
  refine wpAny_bind (wpAny_of_eq (F.newCall_tuple_1 _) (wpAny_pure ⟨plainId_quiet F.plain_tuple_new _, codeAny_builtin F.entry_tuple_new ?_⟩))
  rw [Around.under_plainId F.plain_tuple_new _]
  have hsub := sub_tuple_self
  have hinit := init_tuple_lookup
  have hmh := madeHere_tuple
  have hTI : s.TypeIs (.ref ga) "generator" := (hG I).typeIs
  wp_walk using wpAny_typeOf hTI, collect_V (A := A.in1) hh hd hG I hgs hlt go
  intro acc its σ' H' s' J r z qt
  show wpAny _ _ (Builtin.Tuple.tupleExact its.toArray >>= fun v => ret v) _ _ _
  unfold Builtin.Tuple.tupleExact
  refine wpAny_bind (wpAny_newObj_type ?_ (by show its.toArray.size ≤ sizeLine; rw [List.size_toArray, ← r.length]; exact z))
  refine wpAny_pure ?_
  exact hQ acc its σ' H' s' J r z qt
end
theorem Inn.four {k : Nat} {A : Around} (hr : Room (k + 1) A) : Inn k A A.in1.in1.in1.in1 :=
  ⟨rfl, hr.hd, fun env => ⟨hr.hd, by have := hr.dp; show A.depth + 1 + 3 * k + 5 < _; omega, by have := hr.un; show A.units + 1 + 1 + 1 + 1 + 3 + 16 * k + 200 < _; omega⟩, by have := hr.dp; show A.depth < _; omega⟩
def rdT (g : TG) (tt : TT) (te : Value → TE) (vs : List Nat) (σ : L2.St) (Q : VK) : It → Value → Hp → Prop := fun J cd H2 => ∀ S, H2 S = none → ∃ W : Nat → Nat → Hp → Prop, (∃ m, W 0 m (upd H2 S (.lst []))) ∧
  TurnV J g tt (te cd) vs (wipe σ vs) (cL S) (fun H => ∃ acc, H S = some (.lst acc) ∧ ∀ p, H p = none → Q (.ref p) (upd H p (.tup acc))) W
/-- tuple of a generator expression: its list at S stays behind, nobody's -/
def tTupC (Pre : Hp → Prop) (Post : Hp → Hp → Value → Prop) (wi : TI) (g : TG) (tt : TT) (te : Value → TE) (vs : List Nat) : TE := fun σ H Q => wi σ H fun J H1 => Pre H1 ∧ ∀ H2 cd, Post H1 H2 cd → rdT g tt te vs σ Q J cd H2
section
variable {X : Cx}
theorem pe_tupleC {elt tg iter : Expr} {ifs : List Expr} {scope : Scope} {own : List (Str × Nat)} {pos gpos p : Pos} {wi : TI} {g : TG} {tt : TT} {te : Value → TE} {k : Nat} {Pre : Hp → Prop} {Post : Hp → Hp → Value → Prop}
    (hr : Room (k + 1) X.A) (hgl : Gl X "tuple") (hm : X.mg "tuple" = none) (bm : ∃ P, X.base.BuiltinsAt X.mg P) (mk : MkC X gpos (X.env.qual ++ "<genexpr>") scope Pre Post) (hN : X.N.Nodup) (ok : GOkC X.N X.env.scope scope own) (hi : PI X tg iter wi)
    (pp : Parts X k scope tg ifs elt g tt te) (hs : ∀ v, genFold iter X.env v = pure v := by intro _; rfl)
    (hst : starEach [.GeneratorExp elt [⟨tg, iter, ifs, 0⟩] scope gpos] X.env = (false, eval (.GeneratorExp elt [⟨tg, iter, ifs, 0⟩] scope gpos) X.env) :: starEach [] X.env := by rfl) :
    PE X (.Call (.Name "tuple" p) [.GeneratorExp elt [⟨tg, iter, ifs, 0⟩] scope gpos] [] pos) (tTupC Pre Post wi g tt te (own.map (·.2))) := by
  refine ⟨fun pins s σ H Q I h => ?_⟩
  refine wpAny_Call_Name_kw (ld_blt I hgl hm (show bootBuiltins "tuple" = some (.type "tuple") by decide +kernel) ?_)
  refine PyProof.Rows.callWith_type1 ?_ hst (by rfl)
  rw [hst]
  show wpAny _ _ (spliced ((false, eval (.GeneratorExp elt [⟨tg, iter, ifs, 0⟩] scope gpos) X.env) :: backTo pos (starEach [] X.env))) _ _ s
  refine Calls.spliced_cons (gen_madeC (Rd := rdT g tt te (own.map fun q : Str × Nat => q.2) σ Q) (by have := hr.dp; omega) (Inn.four hr) bm mk hN ok hi pp hs I h fun Z ga gn cd code J H4 s5 hp hw hK isg hgs hlt I5 hI back rd go => ?_)
  refine Calls.spliced_nil ?_
  rw [← hp, ← hw] at *
  refine callType_codes (Q₁ := fun obj s₁ => s₁.TypeIs obj "tuple" ∧ EP X pins σ Q obj s₁) F.called_tuple (F.typeCall_tuple_1 _) F.entry_object_init
    (code_tuple_V (A := X.A.in1) (Qt := fun acc H => ∀ p, H p = none → Q (.ref p) (upd H p (.tup acc))) hr.hd (by have := hr.dp; show X.A.depth < _; omega) hI I5 hgs hlt (fun S hS hS2 => ?_) fun acc its σ' H' s' J r z qt => ⟨⟨_, Heap.get?_push_size _ rfl, rfl⟩, ?_⟩) fun obj s₁ h₁ => ?_
  · obtain ⟨W, ⟨m, w0⟩, hW⟩ := rd S hS
    exact ⟨m + 1, fun s6 I6 kp => go m (m + 1) (cL_mono S).keeps hW (Nat.le_refl _) s6 _ I6 w0 (fun b o e _ => kp b o e) (fun b hb e => by rw [upd_ne (Nat.ne_of_lt (Nat.lt_of_lt_of_le hb hS2))]; exact e) trivial⟩
  · have I' := (back J).laid (o := .tup acc) (t' := s'.toks) (fun b u e => Heap.get?_push_of_some _ e) (Nat.le_refl _) (show ObjOk X.prog X.w _ _ _ (.tup acc) from ⟨z, its, r, { cls := .type "tuple", data := .seq its.toArray }, Heap.get?_push_size _ rfl, rfl, _, rfl⟩)
    exact ⟨.ref _, _, I', rfl, qt _ ((back J).hok.fresh (Nat.le_refl _))⟩
  · exact ⟨h₁.1, F.args_object_init_2 obj _, object_init_meets F.called_tuple.init.lookup F.called_tuple.made (by decide) Z.prog Z.w X.A.in1 _ s₁ ⟨h₁.1, rfl, h₁.2⟩⟩
end
end Gx
end Text_Gh
section Text_Gi
set_option Elab.async false
set_option linter.all false
set_option maxRecDepth 100000
set_option maxHeartbeats 4000000
namespace Gx
open PySem PySem.Spec PyProof.Rows L2 GxR
open PySem.W (alike dataLt)
/-- what min does with an item: the least so far stands twice in the list at S -/
def cM (K : PySem.W.Frag) (S : Addr) : Con := fun y H k => ∃ d, Dp K H y d ∧ d ≠ .none ∧ d.depth ≤ 20 ∧ ((H S = some (.lst []) ∧ k (upd H S (.lst [y, y]))) ∨
  ∃ b db, H S = some (.lst [b, b]) ∧ Dp K H b db ∧ alike d db = true ∧ (dataLt d db = true → k (upd H S (.lst [y, y]))) ∧ (dataLt d db = false → k H))
theorem cM_mono (K : PySem.W.Frag) (S : Addr) : (cM K S).Mono := fun y H k k' hk ⟨d, h1, h2, h3, h4⟩ => ⟨d, h1, h2, h3, h4.elim (fun q => .inl ⟨q.1, hk _ q.2⟩) fun ⟨b, db, q1, q2, q3, q4, q5⟩ => .inr ⟨b, db, q1, q2, q3, fun z => hk _ (q4 z), fun z => hk _ (q5 z)⟩⟩
theorem len2 : ∀ y : V, [y, y].length ≤ sizeLine := fun y => by show 2 ≤ sizeLine; decide
/-- S is what it was at the last waking -/
def rS (S : Addr) : Shared → Hp → Prop := fun s₀ H => ∀ its c, s₀.heap.get? S = some { cls := .type "list", data := .seq its c } → ∃ xs, H S = some (.lst xs) ∧ Vals xs its.toList
def cK (K : PySem.W.Frag) (S : Addr) : Hp → Con := fun H0 y H k => cM K S y H k ∧ H S = H0 S
def fK (S : Addr) : Lef := fun H0 H k => k H ∧ H S = H0 S
theorem cK_keeps (K : PySem.W.Frag) (S : Addr) : Keeps (rS S) (cK K S) (fK S) :=
  ⟨fun H y G k k' hk h => ⟨cM_mono K S y G k k' hk h.1, h.2⟩, fun s₀ H y H4 k h r its c e => by rw [h.2]; exact r its c e, fun s₀ H H3 k h r => ⟨fun its c e => by rw [h.2]; exact r its c e, h.1⟩⟩
theorem lstObj_inj {its its2 : Array Value} {c c2 : Nat} (e : (some { cls := .type "list", data := .seq its c } : Option Obj) = some { cls := .type "list", data := .seq its2 c2 }) : its = its2 := by
  have := congrArg (fun o : Option Obj => o.map fun o => o.data) e
  simp at this
  exact this.1
section
variable {Z : Cx}
theorem rS_of {S : Addr} {ps : List (Addr × Obj)} {σ : L2.St} {H : Hp} {s : Shared} {xs : List V} (I : Inv Z ps σ H s) (e : H S = some (.lst xs)) : rS S s H := fun its c e2 => by
  obtain ⟨z, its', nn, r, hl', e'⟩ := I.lstM e
  rw [e'] at e2
  have := lstObj_inj e2
  subst this
  exact ⟨xs, e, r⟩
/-- a walk of min that has n items at most -/
def MinGo (Z : Cx) (A : Around) (g : Nat) (S : Addr) (Qe : Hp → Prop) (n : Nat) (s : Shared) : Prop := ∃ gs ps σ' H' xs, Inv Z ps σ' H' s ∧ H' S = some (.lst xs) ∧ s.gens[g]? = some gs ∧
  gs.Goes (model Z.prog Z.w) A.in1.in1 (RK Z Qe (rS S)) (YK Z (cK Z.K S) (rS S)) n (.send .none) (s.setGen g .running)
theorem min_turnsV {A : Around} {R : Result → Shared → Prop} {ga S : Addr} {g : Nat} {Qe : Hp → Prop} (hh : A.handled = none) (hd : A.depth < recursionLimit) (hu : A.in1.units + 20 < cLine)
    (hG : ∀ {ps σ' H'} {s' : Shared}, Inv Z ps σ' H' s' → s'.heap.IsGen ga g)
    (hR : ∀ b v σ' H' s', Inv Z [] σ' (upd H' S (.lst [])) s' → Qe H' → H' S = some (.lst [b, b]) → L2.RelV b v → R (.ok (.ret v)) s') (hQ : ∀ H', Qe H' → ∃ b, H' S = some (.lst [b, b])) :
    ∀ (n : Nat) (s : Shared), MinGo Z A g S Qe n s → codeAny (model Z.prog Z.w) A (.builtin "min.loop" ⟨[.ref ga, .none, .ref S], []⟩) R s := by
  have hname : (toString "min" ++ toString ".loop" : String) = "min.loop" := by decide
  have step : ∀ n : Nat, (∀ m, n = m + 1 → ∀ s, MinGo Z A g S Qe m s → codeAny (model Z.prog Z.w) A (.builtin "min.loop" ⟨[.ref ga, .none, .ref S], []⟩) R s) → ∀ s, MinGo Z A g S Qe n s → codeAny (model Z.prog Z.w) A (.builtin "min.loop" ⟨[.ref ga, .none, .ref S], []⟩) R s := by
    intro n ih s hgo
    obtain ⟨gs, ps0, σ0, H0, xs0, I0, e0, hgs, hgo⟩ := hgo
    have hgl : g < s.gens.size := (Array.getElem?_eq_some_iff.mp hgs).1
    obtain ⟨z0, its, nn, r0, hl0, e0'⟩ := I0.lstM e0
    refine codeAny_builtin F.entry_min_loop ?_
    rw [Around.under_plainId F.plain_min_loop _]
    show wpAny _ A.in1 (seqItems? (.ref S) >>= _) _ _ s
    refine wpAny_bind (wpAny_seqItems e0' rfl ?_)
    show wpAny _ A.in1 (tryCatch (pyNext (.ref ga)) _ >>= _) _ _ s
    refine wpAny_bind (wpAny_tryCatch (GenW.wpAny_gsz (n := g + 1) hgl (wpAny_pyNext_genexpQ (A := A.in1) (P := fun _ s₀ s₁ => ∃ σ' H', Inv Z [] σ' H' s₁ ∧ Qe H' ∧ rS S s₀ H') hh I0.nolimit hd (hG I0) hgs hgo (fun v s₁ gs' hb hv hsz => ?_) (fun s₁ hp h' hk hsz => ?_))))
    · obtain ⟨y, ps, σ', H', Hs, ry, I, rr, ⟨d, h1, h2, h3, h4⟩, _⟩ := hv
      obtain ⟨xs, e, r⟩ := rr _ _ e0'
      have I1 := (like_setGen (g := g) I.bare hb).inv I
      have hsz1 : g < s₁.gens.size := by
        have q : (s₁.setGen g gs').gens.size = s₁.gens.size := GenW.setGen_size _ _ _
        have hsz' : g + 1 ≤ (s₁.setGen g gs').gens.size := hsz
        omega
      have again : ∀ (xs2 : List V) (H2 : Hp) (s2 : Shared), s2.gens = (s₁.setGen g gs').gens → Inv Z ps σ' H2 s2 → H2 S = some (.lst xs2) → (∀ s', Inv Z ps σ' H2 s' → rS S s' H2 → (n = 0 → False) ∧ ∀ m, n = m + 1 →
          gs'.Goes (model Z.prog Z.w) A.in1.in1 (RK Z Qe (rS S)) (YK Z (cK Z.K S) (rS S)) m (.send .none) s') →
          codeAny (model Z.prog Z.w) A (.builtin "min.loop" ⟨[.ref ga, .none, .ref S], []⟩) R s2 := by
        intro xs2 H2 s2 hg2 I2 e2 k
        have I3 := (like_setGen (g := g) (x := .running) I2.bare rfl).inv I2
        obtain ⟨k1, k2⟩ := k _ I3 (rS_of I3 e2)
        rcases Nat.eq_zero_or_pos n with hz | hz
        · exact (k1 hz).elim
        · have hn : n = n - 1 + 1 := by omega
          exact ih _ hn s2 ⟨gs', ps, σ', H2, xs2, I2, e2, by rw [hg2]; exact setGen_at hsz1, k2 _ hn⟩
      rcases h4 with ⟨e4, k⟩ | ⟨b, db, e4, hb4, ha, k1, k2⟩
      · rw [e4] at e
        obtain rfl := HO.lst.inj (Option.some.inj e)
        have r : Vals [] its := by simpa using r
        cases r
        obtain ⟨z, its1, n1, rv, hl', e1⟩ := I1.lstM e4
        show wpAny _ A.in1 (updateSeq S (fun _ => #[v, v]) >>= _) _ _ _
        refine wpAny_bind ?_
        refine wpAny_updateSeq e1 rfl ?_ (by rw [List.size_toArray, ← rv.length]; exact z) (by show 2 ≤ sizeLine + 1; decide)
        rw [hname]
        have I2 := I1.lset (f := fun _ => #[v, v]) (t' := s₁.toks) (its' := [v, v]) (ys := [y, y]) e4 e1 rfl (.cons ry (.cons ry .nil)) (len2 y)
        exact wpAny_pure ⟨plainId_quiet F.plain_min_loop _, again _ _ _ rfl I2 upd_same fun s' J r => by
          have q := k s' J r
          cases n with
          | zero => exact ⟨fun _ => q, fun m e => by cases e⟩
          | succ m => exact ⟨fun e => (by cases e), fun m' e => (by cases e; exact q)⟩⟩
      · rw [e4] at e
        obtain rfl := HO.lst.inj (Option.some.inj e)
        have r : Vals [b, b] its := by simpa using r
        cases r with
        | cons r1 r2 =>
          cases r2 with
          | cons r3 r4 =>
            cases r4
            rename_i u1 u2
            obtain ⟨z, its1, n1, rv, hl', e1⟩ := I1.lstM e4
            obtain ⟨as1, rd1⟩ := Dp.reads I1 d y v h1 ry
            obtain ⟨as2, rd2⟩ := Dp.reads I1 db b u2 hb4 r3
            show wpAny _ A.in1 (tryCatch (holding [v, v] (richCompare .Lt v u2 >>= _)) _ >>= _) _ _ _
            refine wpAny_bind (wpAny_tryCatch (wpAny_holding (wpAny_bind (PySem.W.rcLt_alike d db A.in1 _ v u2 as1 as2 rd1 rd2 ha h2 (by have := Nat.min_le_left d.depth db.depth; omega) _ _ _ _ ?_))))
            refine wpAny_bind (wpAny_holding (wpAny_truthy_bool ?_))
            refine wpAny_bind (wpAny_letGo (wpAny_pure ?_))
            cases hb : dataLt d db with
            | true =>
              simp only [if_true]
              refine wpAny_bind ?_
              refine wpAny_updateSeq e1 rfl (wpAny_bind (wpAny_letGo ?_)) (by rw [List.size_toArray, ← rv.length]; exact z) (by show 2 ≤ sizeLine + 1; decide)
              rw [hname]
              have I2 := I1.lset (f := fun _ => #[v, v]) (t' := s₁.toks) (its' := [v, v]) (ys := [y, y]) e4 e1 rfl (.cons ry (.cons ry .nil)) (len2 y)
              exact wpAny_pure ⟨plainId_quiet F.plain_min_loop _, again _ _ _ rfl I2 upd_same fun s' J r => by
                have q := k1 hb s' J r
                cases n with
                | zero => exact ⟨fun _ => q, fun m e => by cases e⟩
                | succ m => exact ⟨fun e => (by cases e), fun m' e => (by cases e; exact q)⟩⟩
            | false =>
              simp only [Bool.false_eq_true, if_false]
              refine wpAny_bind (wpAny_letGo ?_)
              rw [hname]
              exact wpAny_pure ⟨plainId_quiet F.plain_min_loop _, again _ _ _ rfl I1 e4 fun s' J r => by
                have q := k2 hb s' J r
                cases n with
                | zero => exact ⟨fun _ => q, fun m e => by cases e⟩
                | succ m => exact ⟨fun e => (by cases e), fun m' e => (by cases e; exact q)⟩⟩
    · obtain ⟨σ', H', I, q, rr⟩ := hp
      obtain ⟨xs, e, r⟩ := rr _ _ e0'
      obtain ⟨b, eb⟩ := hQ _ q
      rw [eb] at e
      obtain rfl := HO.lst.inj (Option.some.inj e)
      have I1 := ((like_setGen (g := g) (x := .finished) I.bare rfl).inv I).kept (t' := s₁.toks) hk
      have r : Vals [b, b] its := by simpa using r
      cases r with
      | cons r1 r2 =>
        cases r2 with
        | cons r3 r4 =>
          cases r4
          rename_i u1 u2
          obtain ⟨z, its1, n1, rv, hl', e1⟩ := I1.lstM eb
          show wpAny _ A.in1 (updateSeq S (fun _ => #[]) >>= _) _ _ _
          refine wpAny_bind ?_
          refine wpAny_updateSeq e1 rfl ?_ (by rw [List.size_toArray, ← rv.length]; exact z) (Nat.zero_le _)
          refine wpAny_bind (wpAny_letGo (wpAny_pure ?_))
          exact hR b u1 σ' H' _ (I1.lset (f := fun _ => #[]) (t' := s₁.toks) (its' := []) (ys := []) eb e1 rfl .nil (Nat.zero_le _)) q eb r1
  intro n
  induction n with
  | zero => exact step 0 fun m e => by cases e
  | succ n ih => exact step (n + 1) fun m e => by cases e; exact ih
end
end Gx
end Text_Gi
section Text_Gj
set_option Elab.async false
set_option linter.all false
set_option maxRecDepth 100000
set_option maxHeartbeats 4000000
namespace Gx
open PySem PySem.Spec PyProof.Rows L2 GxR
def rdM (K : PySem.W.Frag) (g : TG) (tt : TT) (te : Value → TE) (vs : List Nat) (σ : L2.St) (Q : VK) : It → Value → Hp → Prop := fun J cd H2 => ∀ S, H2 S = none → ∃ W : Nat → Nat → Hp → Prop, (∃ m, W 0 m (upd H2 S (.lst []))) ∧
  TurnK J g tt (te cd) vs (wipe σ vs) (cK K S) (fK S) (fun H => ∃ b, H S = some (.lst [b, b]) ∧ Q b (upd H S (.lst []))) W
/-- min of a generator expression of alike data: its list at S stays behind, nobody's -/
def tMinC (K : PySem.W.Frag) (Pre : Hp → Prop) (Post : Hp → Hp → Value → Prop) (wi : TI) (g : TG) (tt : TT) (te : Value → TE) (vs : List Nat) : TE := fun σ H Q => wi σ H fun J H1 => Pre H1 ∧ ∀ H2 cd, Post H1 H2 cd → rdM K g tt te vs σ Q J cd H2
section
variable {X : Cx}
theorem pe_minC {elt tg iter : Expr} {ifs : List Expr} {scope : Scope} {own : List (Str × Nat)} {pos gpos p : Pos} {wi : TI} {g : TG} {tt : TT} {te : Value → TE} {k : Nat} {Pre : Hp → Prop} {Post : Hp → Hp → Value → Prop}
    (hr : Room (k + 1) X.A) (hgl : Gl X "min") (hm : X.mg "min" = none) (bm : ∃ P, X.base.BuiltinsAt X.mg P) (mk : MkC X gpos (X.env.qual ++ "<genexpr>") scope Pre Post) (hN : X.N.Nodup) (ok : GOkC X.N X.env.scope scope own) (hi : PI X tg iter wi)
    (pp : Parts X k scope tg ifs elt g tt te) (hs : ∀ v, genFold iter X.env v = pure v := by intro _; rfl)
    (hst : starEach [.GeneratorExp elt [⟨tg, iter, ifs, 0⟩] scope gpos] X.env = (false, eval (.GeneratorExp elt [⟨tg, iter, ifs, 0⟩] scope gpos) X.env) :: starEach [] X.env := by rfl) :
    PE X (.Call (.Name "min" p) [.GeneratorExp elt [⟨tg, iter, ifs, 0⟩] scope gpos] [] pos) (tMinC X.K Pre Post wi g tt te (own.map (·.2))) := by
  refine ⟨fun pins s σ H Q I h => ?_⟩
  have hname : (toString "min" ++ toString ".loop" : String) = "min.loop" := by decide
  refine wpAny_Call_Name_kw (ld_blt I hgl hm (show bootBuiltins "min" = some (.builtin "min") by decide +kernel) ?_)
  refine PyProof.Rows.callWith_builtin1 ?_ hst (by rfl)
  rw [hst]
  show wpAny _ _ (spliced ((false, eval (.GeneratorExp elt [⟨tg, iter, ifs, 0⟩] scope gpos) X.env) :: backTo pos (starEach [] X.env))) _ _ s
  refine Calls.spliced_cons (gen_madeC (Rd := rdM X.K g tt te (own.map fun q : Str × Nat => q.2) σ Q) (by have := hr.dp; omega) (Inn.two hr) bm mk hN ok hi pp hs I h fun Z ga gn cd code J H4 s5 hp hw hK isg hgs hlt I5 hI back rd go => ?_)
  refine Calls.spliced_nil ?_
  refine call_function_tree F.kind_min F.plain_min F.entry_min (F.args_min1 _) ?_
  show wpAny _ X.A.in1 (Builtin.Builtins.bindParams "min" ["key", "default"] 0 ⟨[], []⟩ >>= _) _ _ s5
  refine wpAny_bind (wpAny_of_eq (show Builtin.Builtins.bindParams "min" ["key", "default"] 0 ⟨[], []⟩ = pure [none, none] from rfl) ?_)
  refine wpAny_bind (wpAny_pure ?_)
  refine wpAny_bind (wpAny_pyIter_gen isg ?_)
  refine wpAny_bind (wpAny_newObj_type ?_)
  rw [hname]
  rw [← hp, ← hw] at *
  have hS : H4 s5.heap.objs.size = none := I5.hok.fresh (Nat.le_refl _)
  obtain ⟨W, ⟨m, w0⟩, hW⟩ := rd _ hS
  rw [← hK] at hW
  have kp1 : ∀ b o, s5.heap.get? b = some o → (s5.heap.push { cls := .type "list", data := .seq ([] : List Value).toArray }).get? b = some o := fun b o e => Heap.get?_push_of_some _ e
  have I6 := I5.laid (o := .lst []) (t' := s5.toks) kp1 (Nat.le_refl _) ⟨Nat.zero_le _, [], _, .nil, Heap.get?_push_size _ rfl⟩
  have I7 := (like_setGen (g := gn) (x := .running) I6.bare rfl).inv I6
  refine wpAny_pure ⟨plainId_quiet F.plain_min_loop _, ?_⟩
  refine min_turnsV (Z := Z) (A := X.A) (S := s5.heap.objs.size) hr.hd (by have := hr.dp; omega) (by have := hr.un; show X.A.units + 1 + 20 < _; omega) hI (fun b v σ' H' s' J q e r => ?_) (fun H' q => let ⟨b, e, _⟩ := q; ⟨b, e⟩) (m + 1) _
    ⟨_, [], _, _, [], I6, upd_same, hgs, go m (m + 1) (cK_keeps _ _) hW (Nat.le_refl _) _ _ I7 w0 (fun b o e _ => kp1 b o e) (fun b hb e => by rw [upd_ne (Nat.ne_of_lt hb)]; exact e) (rS_of I7 upd_same)⟩
  obtain ⟨b', e', q⟩ := q
  rw [e] at e'
  have eb := HO.lst.inj (Option.some.inj e')
  simp at eb
  subst eb
  exact ⟨b, _, back J, r, q⟩
end
end Gx
end Text_Gj
section Text_Gk
set_option Elab.async false
set_option linter.all false
set_option maxRecDepth 100000
set_option maxHeartbeats 4000000
/-! Gk: dict comprehensions of two clauses. -/
namespace Gx
open PySem PySem.Spec PyProof.Rows L2 GxR
theorem cTurnD_out (kx vx t0 i0 t1 i1 : Expr) (ifs0 ifs1 : List Expr) (scp : Scope) (pos : Pos) (it : Value) (D : Addr) (env : Env) :
    compTurn (.DictComp kx vx [⟨t0, i0, ifs0, 0⟩, ⟨t1, i1, ifs1, 0⟩] scp pos) 0 it (.ref D) env = (do
      standAt i0.pos
      match ← pyNext it with
      | none => pure (.done .next)
      | some v =>
        letOwnedTupleGo t0 it v
        assign t0 env v
        let mut ok := true
        for c in ifs0 do
          if ok then ok ← isTrue c env (eval c env)
        if ok then
          let x ← eval i1 env
          standAt i1.pos
          let x ← foldedSetIterable i1 env x
          let _ ← runOwn (.compStart (.DictComp kx vx [⟨t0, i0, ifs0, 0⟩, ⟨t1, i1, ifs1, 0⟩] scp pos) 1 (← holding [x] (pyIter x)) (.ref D) env) env
        again (.compLoop (.DictComp kx vx [⟨t0, i0, ifs0, 0⟩, ⟨t1, i1, ifs1, 0⟩] scp pos) 0 it (.ref D) env)) := by rfl
theorem cTurnD_in (kx vx t0 i0 t1 i1 : Expr) (ifs0 ifs1 : List Expr) (scp : Scope) (pos : Pos) (it : Value) (D : Addr) (env : Env) :
    compTurn (.DictComp kx vx [⟨t0, i0, ifs0, 0⟩, ⟨t1, i1, ifs1, 0⟩] scp pos) 1 it (.ref D) env = (do
      standAt i1.pos
      match ← pyNext it with
      | none => pure (.done .next)
      | some v =>
        letOwnedTupleGo t1 it v
        assign t1 env v
        let mut ok := true
        for c in ifs1 do
          if ok then ok ← isTrue c env (eval c env)
        if ok then
          (do let kv ← eval kx env; let vv ← holding [kv] (eval vx env); standAt { kx.pos with endLine := vx.pos.endLine, endCol := vx.pos.endCol }; holding [kv, vv] (dictSet D kv vv))
        again (.compLoop (.DictComp kx vx [⟨t0, i0, ifs0, 0⟩, ⟨t1, i1, ifs1, 0⟩] scp pos) 1 it (.ref D) env)) := by rfl

section
variable {prog : Program} {w : World} {A : Around} {R : Result → Shared → Prop} {s : Shared} {kx vx t0 i0 t1 i1 : Expr} {ifs0 ifs1 : List Expr} {scp : Scope} {pos : Pos} {it : Value} {D : Addr} {env : Env}
theorem cLoopD_out (hs : ∀ x, foldedSetIterable i1 env x = pure x) (I : Nat → Shared → Prop)
    (turn : ∀ n s, I n s → wpAny (model prog w) A (pyNext it) (fun r sg₁ => match r with
      | none => R (.ok .next) sg₁
      | some v => wpAny (model prog w) A (letOwnedTupleGo t0 it v) (fun _ sg₁' => wpAny (model prog w) A (assign t0 env v) (fun _ sg₂ =>
          wpAny (model prog w) A (forIn ifs0 true fun c r => if r = true then do let ok ← isTrue c env (eval c env); pure (ForInStep.yield ok) else pure (ForInStep.yield r)) (fun ok sg₃ =>
            if ok = true then wpAny (model prog w) A (eval i1 env) (fun x sg₄ => wpAny (model prog w) A (pyIter x) (fun it1 sg₅ =>
              codeAny (model prog w) A (.compStart (.DictComp kx vx [⟨t0, i0, ifs0, 0⟩, ⟨t1, i1, ifs1, 0⟩] scp pos) 1 it1 (.ref D) env) (fun r s' => match r with
                | .ok _ => ∃ m, m < n ∧ I m s'
                | .error _ => False) sg₅) (notedBy (model prog w) A env fun e s' => R (.error e) s') sg₄) (notedBy (model prog w) A env fun e s' => R (.error e) s') sg₃
            else ∃ m, m < n ∧ I m sg₃) (notedBy (model prog w) A env fun e s' => R (.error e) s') sg₂) (notedBy (model prog w) A env fun e s' => R (.error e) s') sg₁') (notedBy (model prog w) A env fun e s' => R (.error e) s') sg₁) (notedBy (model prog w) A env fun e s' => R (.error e) s') s)
    (n : Nat) (h : I n s) :
    codeAny (model prog w) A (.compLoop (.DictComp kx vx [⟨t0, i0, ifs0, 0⟩, ⟨t1, i1, ifs1, 0⟩] scp pos) 0 it (.ref D) env) R s := by
  refine codeAny_loop rfl I (fun n s hI => ?_) n h
  show wpAny _ A ((compTurn (.DictComp kx vx [⟨t0, i0, ifs0, 0⟩, ⟨t1, i1, ifs1, 0⟩] scp pos) 0 it (.ref D) env).onRaise (fun x => do noteFrame x env; theTreesLotGoes x)) _ _ s
  refine wpAny_noted ?_
  rw [cTurnD_out]
  refine wpAny_bind (wpAny_standAt (wpAny_bind (wpAny_mono (turn n s hI) (fun r sg₁ hh₁ => ?_) fun _ _ h' => h')))
  cases r with
  | none => exact wpAny_pure hh₁
  | some v =>
    refine wpAny_bind (wpAny_mono hh₁ (fun _ sg₁' hh₁' => ?_) fun _ _ h' => h')
    refine wpAny_bind (wpAny_mono hh₁' (fun _ sg₂ hh₂ => wpAny_bind (wpAny_mono hh₂ (fun ok sg₃ hh₃ => ?_) fun _ _ h' => h')) fun _ _ h' => h')
    cases ok with
    | false => exact wpAny_pure ⟨rfl, hh₃⟩
    | true =>
      refine wpAny_bind (wpAny_mono hh₃ (fun x sg₄ hh₄ => ?_) fun _ _ h' => h')
      refine wpAny_bind (wpAny_standAt (wpAny_bind (wpAny_of_eq (hs x) (wpAny_bind (wpAny_holding (wpAny_mono hh₄ (fun it1 sg₅ hh₅ => ?_) fun _ _ h' => h'))))))
      refine wpAny_bind (wpAny_runOwn ?_)
      rw [Around.mark_none]
      refine codeAny_mono hh₅ fun r s' hr => ?_
      cases r with
      | ok f =>
        first
          | exact wpAny_pure ⟨rfl, hr⟩
          | exact wpAny_bind (wpAny_pure (wpAny_pure ⟨rfl, hr⟩))
      | error e => exact hr.elim
theorem cLoopD_in (I : Nat → Shared → Prop)
    (turn : ∀ n s, I n s → wpAny (model prog w) A (pyNext it) (fun r sg₁ => match r with
      | none => R (.ok .next) sg₁
      | some v => wpAny (model prog w) A (letOwnedTupleGo t1 it v) (fun _ sg₁' => wpAny (model prog w) A (assign t1 env v) (fun _ sg₂ =>
          wpAny (model prog w) A (forIn ifs1 true fun c r => if r = true then do let ok ← isTrue c env (eval c env); pure (ForInStep.yield ok) else pure (ForInStep.yield r)) (fun ok sg₃ =>
            if ok = true then wpAny (model prog w) A (eval kx env) (fun kv sg₄ => wpAny (model prog w) A (eval vx env) (fun vv sg₅ =>
              wpAny (model prog w) A (dictSet D kv vv) (fun _ sg₆ => ∃ m, m < n ∧ I m sg₆) (notedBy (model prog w) A env fun e s' => R (.error e) s') sg₅) (notedBy (model prog w) A env fun e s' => R (.error e) s') sg₄) (notedBy (model prog w) A env fun e s' => R (.error e) s') sg₃
            else ∃ m, m < n ∧ I m sg₃) (notedBy (model prog w) A env fun e s' => R (.error e) s') sg₂) (notedBy (model prog w) A env fun e s' => R (.error e) s') sg₁') (notedBy (model prog w) A env fun e s' => R (.error e) s') sg₁) (notedBy (model prog w) A env fun e s' => R (.error e) s') s)
    (n : Nat) (h : I n s) :
    codeAny (model prog w) A (.compLoop (.DictComp kx vx [⟨t0, i0, ifs0, 0⟩, ⟨t1, i1, ifs1, 0⟩] scp pos) 1 it (.ref D) env) R s := by
  refine codeAny_loop rfl I (fun n s hI => ?_) n h
  show wpAny _ A ((compTurn (.DictComp kx vx [⟨t0, i0, ifs0, 0⟩, ⟨t1, i1, ifs1, 0⟩] scp pos) 1 it (.ref D) env).onRaise (fun x => do noteFrame x env; theTreesLotGoes x)) _ _ s
  refine wpAny_noted ?_
  rw [cTurnD_in]
  refine wpAny_bind (wpAny_standAt (wpAny_bind (wpAny_mono (turn n s hI) (fun r sg₁ hh₁ => ?_) fun _ _ h' => h')))
  cases r with
  | none => exact wpAny_pure hh₁
  | some v =>
    refine wpAny_bind (wpAny_mono hh₁ (fun _ sg₁' hh₁' => ?_) fun _ _ h' => h')
    refine wpAny_bind (wpAny_mono hh₁' (fun _ sg₂ hh₂ => wpAny_bind (wpAny_mono hh₂ (fun ok sg₃ hh₃ => ?_) fun _ _ h' => h')) fun _ _ h' => h')
    cases ok with
    | false => exact wpAny_pure ⟨rfl, hh₃⟩
    | true =>
      exact wpAny_bind (wpAny_bind (wpAny_mono hh₃ (fun kv sg₄ hh₄ => wpAny_bind (wpAny_holding (wpAny_mono hh₄ (fun vv sg₅ hh₅ => wpAny_bind (wpAny_standAt (wpAny_holding (wpAny_mono hh₅ (fun _ sg₆ hh₆ => wpAny_pure ⟨rfl, hh₆⟩) fun _ _ h' => h')))) fun _ _ h' => h'))) fun _ _ h' => h'))
theorem cStartD_ok (h0 : codeAny (model prog w) A (.compLoop (.DictComp kx vx [⟨t0, i0, ifs0, 0⟩, ⟨t1, i1, ifs1, 0⟩] scp pos) 1 it (.ref D) env) R s)
    (h : wpAny (model prog w) A (pyIter it) (fun it' s' => codeAny (model prog w) A (.compLoop (.DictComp kx vx [⟨t0, i0, ifs0, 0⟩, ⟨t1, i1, ifs1, 0⟩] scp pos) 1 it' (.ref D) env) R s')
      (notedBy (model prog w) A env fun x s' => R (.error x) s') s) :
    codeAny (model prog w) A (.compStart (.DictComp kx vx [⟨t0, i0, ifs0, 0⟩, ⟨t1, i1, ifs1, 0⟩] scp pos) 1 it (.ref D) env) R s := by
  refine codeAny_of_tree ?_
  show wpAny _ _ ((compStart (.DictComp kx vx [⟨t0, i0, ifs0, 0⟩, ⟨t1, i1, ifs1, 0⟩] scp pos) 1 it (.ref D) env).onRaise (fun x => do noteFrame x env; standAt theWindowsPlace)) _ _ s
  refine wpAny_notedAt ?_
  unfold compStart
  show wpAny _ _ (ask >>= _) _ _ s
  refine wpAny_bind (wpAny_askSetting (wpAny_ite ?_))
  split
  · first
      | exact wpAny_bind (wpAny_pure (wpAny_pure (And.intro rfl h0)))
      | exact wpAny_pure (And.intro rfl h0)
  · first
      | exact wpAny_bind (wpAny_rule (wpAny_bind (wpAny_standAt (wpAny_bind (wpAny_mono h (fun it' s' h' => wpAny_pure (And.intro rfl h')) fun _ _ x => x)))))
      | (refine wpAny_bind (wpAny_rule ?_); show wpAny _ _ (standAt i1.pos >>= _) _ _ s; exact wpAny_bind (wpAny_standAt (wpAny_bind (wpAny_mono h (fun it' s' h' => wpAny_pure (And.intro rfl h')) fun _ _ x => x))))
end

section
variable {X : Cx}
def tDc2 (wi : TI) (g : TG) (tt : TT) (wi1 : TI) (g1 : TG) (tt1 : TT) (tk tv : TE) (vs vs1 : List Nat) : TE := fun σ H Q => wi σ H fun J hp1 => ∀ D, hp1 D = none → ∃ W : Nat → Nat → Hp → Prop, (∃ m, W 0 m (upd hp1 D (.dK []))) ∧ ∀ i m H, W i m H →
  (J.stop i H ∧ Q (.ref D) H) ∨ (J.go i H ∧ ∃ Nx : Hp → Prop, (∀ H', Nx H' → ∃ m', m' < m ∧ W (i + 1) m' H') ∧ ∀ x H', J.yld i H x H' → g x (wipe σ vs) H' fun σ2 hp2 => wipe σ2 vs = wipe σ vs ∧ tt σ2 hp2 fun b hp3 =>
    if b = true then wi1 σ2 hp3 fun J1 hp4 => ∃ W1 : Nat → Nat → Hp → Prop, (∃ m, W1 0 m hp4) ∧ ∀ j k H, W1 j k H →
      (J1.stop j H ∧ Nx H) ∨ (J1.go j H ∧ ∃ Nx1 : Hp → Prop, (∀ H', Nx1 H' → ∃ k', k' < k ∧ W1 (j + 1) k' H') ∧ ∀ x H', J1.yld j H x H' → g1 x (wipe σ2 vs1) H' fun σ3 hp5 => wipe σ3 vs1 = wipe σ2 vs1 ∧ tt1 σ3 hp5 fun b hp6 =>
        if b = true then tk σ3 hp6 fun y hp7 => tv σ3 hp7 fun z hp8 => ∃ kvs k, y = kV k ∧ hp8 D = some (.dK kvs) ∧ kvs.length < sizeLine ∧ Nx1 (upd hp8 D (.dK (putK kvs k z))) else Nx1 hp6)
    else Nx hp3)
theorem dc2_core {pns : List (Addr × Obj)} {s : Shared} {σ : L2.St} {H : Hp} {Q : VK} {kx vx tg iter tg1 iter1 : Expr} {tst ifs1 : List Expr} {scp : Scope} {own : List (Str × Nat)} {vs1 : List Nat} {pos pos' : Pos} {wi wi1 : TI} {g g1 : TG} {tt tt1 : TT} {tk tv : TE} {use : Option (Value → Sem Unit)} {Qf : Value → Shared → Prop}
    (hc : X.calm = true) (hN : X.N.Nodup) (I : Inv X pns σ H s) (hi : PI X tg iter wi) (ok : BlkOk X.N X.env.scope scp own) (hv : ∀ i ∈ vs1, i ∈ own.map (·.2))
    (hg : ∀ (s : Shared) (H : Hp) (C : Addr) (cl : List (Str × Addr)) (fp : List Addr), PG (X.blk s H scp (compEnvC scp cl C X.env) fp) tg g) (ht : ∀ (s : Shared) (H : Hp) (C : Addr) (cl : List (Str × Addr)) (fp : List Addr), PTs (X.blk s H scp (compEnvC scp cl C X.env) fp) tst tt)
    (hk : ∀ (s : Shared) (H : Hp) (C : Addr) (cl : List (Str × Addr)) (fp : List Addr), PE (X.blk s H scp (compEnvC scp cl C X.env) fp) kx tk) (he : ∀ (s : Shared) (H : Hp) (C : Addr) (cl : List (Str × Addr)) (fp : List Addr), PE (X.blk s H scp (compEnvC scp cl C X.env) fp) vx tv) (hs : ∀ x, foldedSetIterable iter X.env x = pure x)
    (hi1 : ∀ (s : Shared) (H : Hp) (C : Addr) (cl : List (Str × Addr)) (fp : List Addr), PI (X.blk s H scp (compEnvC scp cl C X.env) fp) tg1 iter1 wi1)
    (hg1 : ∀ (s : Shared) (H : Hp) (C : Addr) (cl : List (Str × Addr)) (fp : List Addr), PG (X.blk s H scp (compEnvC scp cl C X.env) fp) tg1 g1)
    (ht1 : ∀ (s : Shared) (H : Hp) (C : Addr) (cl : List (Str × Addr)) (fp : List Addr), PTs (X.blk s H scp (compEnvC scp cl C X.env) fp) ifs1 tt1)
    (hs1 : ∀ env x, foldedSetIterable iter1 env x = pure x)
    (h : tDc2 wi g tt wi1 g1 tt1 tk tv (own.map (·.2)) vs1 σ H Q)
    (hRR : ∀ D C s' m H', Inv X pns σ H' s' → Q (.ref D) H' → s'.heap.Ns C m → FpOk X pns H' C → compPost (model X.prog X.w) X.A X.xe use Qf (.ref D) C (.ok .next) s') :
    wpAny (model X.prog X.w) X.A (comprehension (.DictComp kx vx [⟨tg, iter, tst, 0⟩, ⟨tg1, iter1, ifs1, 0⟩] scp pos) scp X.env pos' (newDict) false (eval iter X.env) use) Qf X.xe s := by
  have hfree : ∀ y ∈ scp.names, y.2 = .free → ∃ c, X.env.cells.lookup y.1 = some c := fun y hy e => by
    rcases ok.free y hy e with k | k
    · exact I.ok.has _ (.inl k)
    · exact I.ok.has _ (.inr k)
  refine wpAny_comprehension_free (use := use) rfl hs (closure_ok hfree) ok.kind (fun y hy e => by rw [ok.uniq y hy, e])
    (thn (hi.run pns s σ H _ I h) fun xv sh1 hx => thn hx fun itv sh2 h2 => ?_)
  obtain ⟨it, fp, tn, J, hp2, e, iv2, T, sta2, f2, q⟩ := h2
  subst e
  refine wpAny_newObj_type (newEnv_comp ?_)
  generalize hD : sh2.heap.objs.size = D
  have hDn : hp2 D = none := iv2.hok.fresh (Nat.le_of_eq hD)
  obtain ⟨W, ⟨m0, w0⟩, turn⟩ := q D hDn
  -- the new list
  generalize hs3 : ({ sh2 with heap := sh2.heap.push { cls := .type "dict", data := .dict #[] } } : Shared) = sh3
  have iv3 : Inv X pns σ (upd hp2 D (.dK [])) sh3 := by
    rw [← hs3]
    refine iv2.laid (t' := sh2.toks) (fun b o e => Heap.get?_push_of_some _ e) (Nat.le_of_eq hD) ?_
    rw [← hD]
    exact dk_empty sh2.heap iv2.big
  have h3 : sh3.heap = sh2.heap.push { cls := .type "dict", data := .dict #[] } := by rw [← hs3]
  have sz : ∀ b ∈ fp, b < sh2.heap.objs.size := fun b hb => by
    obtain ⟨o, e, _⟩ := T.obj _ _ sta2 b hb
    exact Heap.lt_size e
  have f3 : ∀ b ∈ fp, FpOk X pns (upd hp2 D (.dK [])) b ∧ b < sh3.heap.objs.size := fun b hb => by
    have hlt := sz b hb
    refine ⟨⟨?_, (f2 b hb).2⟩, by rw [h3, Heap.size_push]; exact Nat.lt_succ_of_lt hlt⟩
    rw [upd_ne (by rw [← hD]; exact Nat.ne_of_lt hlt)]
    exact (f2 b hb).1
  have sta3 : tn 0 sh3.heap := T.keep _ _ _ sta2 fun b _ o e => by rw [h3]; exact Heap.get?_push_of_some _ e
  have iv4 := block_start iv3 ok hN f3
  have pg := hg sh3 (upd hp2 D (.dK [])) sh3.heap.objs.size (cellsFrom (sh3.heap.objs.size + 1) scp.names (cloFrom X.env.cells scp.names [])) fp
  have pt := ht sh3 (upd hp2 D (.dK [])) sh3.heap.objs.size (cellsFrom (sh3.heap.objs.size + 1) scp.names (cloFrom X.env.cells scp.names [])) fp
  have pk := hk sh3 (upd hp2 D (.dK [])) sh3.heap.objs.size (cellsFrom (sh3.heap.objs.size + 1) scp.names (cloFrom X.env.cells scp.names [])) fp
  have pe := he sh3 (upd hp2 D (.dK [])) sh3.heap.objs.size (cellsFrom (sh3.heap.objs.size + 1) scp.names (cloFrom X.env.cells scp.names [])) fp
  have pi1 := hi1 sh3 (upd hp2 D (.dK [])) sh3.heap.objs.size (cellsFrom (sh3.heap.objs.size + 1) scp.names (cloFrom X.env.cells scp.names [])) fp
  have pg1 := hg1 sh3 (upd hp2 D (.dK [])) sh3.heap.objs.size (cellsFrom (sh3.heap.objs.size + 1) scp.names (cloFrom X.env.cells scp.names [])) fp
  have pt1 := ht1 sh3 (upd hp2 D (.dK [])) sh3.heap.objs.size (cellsFrom (sh3.heap.objs.size + 1) scp.names (cloFrom X.env.cells scp.names [])) fp
  show codeAny _ _ (.compStart (.DictComp kx vx [⟨tg, iter, tst, 0⟩, ⟨tg1, iter1, ifs1, 0⟩] scp pos) 0 (.ref it) (.ref D) (compEnvC scp (cellsFrom (sh3.heap.objs.size + 1) scp.names (cloFrom X.env.cells scp.names [])) sh3.heap.objs.size X.env)) (compPost (model X.prog X.w) X.A X.xe use Qf (.ref D) sh3.heap.objs.size) { sh3 with heap := pushCells (sh3.heap.push { cls := .type "dict", data := .dict #[] }) scp.names }
  have nfp : ∀ b ∈ fp, (upd hp2 D (.dK [])) b = none := fun b hb => (f3 b hb).1.1
  generalize hce : compEnvC scp (cellsFrom (sh3.heap.objs.size + 1) scp.names (cloFrom X.env.cells scp.names [])) sh3.heap.objs.size X.env = ce at iv4 pg pt pk pe pi1 pg1 pt1 ⊢
  have cL : ce.locals = sh3.heap.objs.size := by subst hce; rfl
  generalize hH3 : upd hp2 D (.dK []) = hp3 at iv3 iv4 pg pt pk pe pi1 pg1 pt1 w0 nfp f3
  generalize hs4 : ({ sh3 with heap := pushCells (sh3.heap.push { cls := .type "dict", data := .dict #[] }) scp.names } : Shared) = sh4 at iv4 ⊢
  have sta4 : tn 0 sh4.heap := T.keep _ _ _ sta3 fun b _ o e => by rw [← hs4]; exact pushCells_keeps _ _ _ _ (Heap.get?_push_of_some _ e)
  have stat : ∀ {σ' : L2.St} {H' : Hp} {s' : Shared}, Inv (X.blk sh3 hp3 scp ce fp) [] σ' H' s' → (∀ b ∈ fp, H' b = none) → ∀ b ∈ fp, FpOk (X.blk sh3 hp3 scp ce fp) [] H' b := fun {σ' H' s'} I' hn b hb =>
    ⟨hn b hb, (I'.ok.exf b hb).1, I'.ok.exfs b hb, .inl hb, fun x c e => (I'.ok.exf b hb).2 x c e, fun p hp => absurd (show p ∈ ([] : List (Addr × Obj)) ++ [] from hp) (by simp)⟩
  have loop : codeAny (model X.prog X.w) X.A (.compLoop (.DictComp kx vx [⟨tg, iter, tst, 0⟩, ⟨tg1, iter1, ifs1, 0⟩] scp pos) 0 (.ref it) (.ref D) ce) (compPost (model X.prog X.w) X.A X.xe use Qf (.ref D) sh3.heap.objs.size) sh4 := by
    refine cLoopD_out (hs1 ce) (fun n s' => ∃ i H', Inv (X.blk sh3 hp3 scp ce fp) [] (wipe σ (own.map (·.2))) H' s' ∧ tn i s'.heap ∧ (∀ b ∈ fp, H' b = none) ∧ W i n H') ?_ m0 ⟨0, hp3, iv4, sta4, nfp, w0⟩
    rintro n sh5 ⟨i, hp5, iv5, sta5, n5, w5⟩
    rcases turn i n hp5 w5 with ⟨stop, qq⟩ | ⟨go, Nx, hNx, step⟩
    · have td := T.done (X.blk sh3 hp3 scp ce fp) rfl rfl rfl hc i [] sh5 _ hp5 (fun _ _ => False) iv5 (stat iv5 n5) sta5 stop
      refine thnF td fun r sh6 ⟨hr, iv6⟩ => ?_
      subst hr
      -- back in the def's context
      have iv7 : Inv X pns σ hp5 sh6 := iv3.call' (ch := fp) iv6.os iv6.base iv6.hok iv6.bare fun b hb => ⟨(f3 b hb).1.2.2.2.1, (f3 b hb).1.2.1, (f3 b hb).1.2.2.2.2.1, (f3 b hb).1.2.2.2.2.2⟩
      have nC : hp5 sh3.heap.objs.size = none := by
        have z : hp5 ce.locals = none := iv6.free
        rw [cL] at z
        exact z
      obtain ⟨m, hn, _⟩ := iv6.loc
      have hn : sh6.heap.Ns ce.locals m := hn
      rw [cL] at hn
      exact hRR D sh3.heap.objs.size sh6 m hp5 iv7 qq hn (iv3.fpOk (Nat.le_refl _) nC)
    · have ti := T.item (X.blk sh3 hp3 scp ce fp) rfl rfl rfl hc i [] sh5 _ hp5 (fun _ _ => False) iv5 (stat iv5 n5) sta5 go
      refine thnF ti fun r sh6 ⟨u, hr, h6⟩ => ?_
      subst hr
      refine thnF h6 fun _ sh7 ⟨x, hp7, iv7, r7, y7, sta7, n7⟩ => ?_
      have iv7' := iv7.pinned (stat iv7 n7) (T.obj _ _ sta7)
      refine thnF (pg.run _ sh7 _ hp7 x u _ iv7' r7 (step x hp7 y7)) fun _ sh8 ⟨σ8, hp8, iv8, hw8, q8⟩ => ?_
      refine thnF (pt.run _ sh8 σ8 hp8 _ iv8 q8) fun b sh9 ⟨hp9, iv9, q9⟩ => ?_
      -- the turn's end, from any slots that know what the block knew at its start
      have fin : ∀ {σ9 : L2.St} {s' : Shared} {H' : Hp}, Inv (X.blk sh3 hp3 scp ce fp) ([] ++ pinsAt fp sh7.heap) σ9 H' s' → (wipe σ (own.map (·.2))).length = σ9.length → (∀ (j : Nat) v, (wipe σ (own.map (·.2)))[j]? = some (some v) → σ9[j]? = some (some v)) → Nx H' →
          ∃ m, m < n ∧ ∃ i H', Inv (X.blk sh3 hp3 scp ce fp) [] (wipe σ (own.map (·.2))) H' s' ∧ tn i s'.heap ∧ (∀ b ∈ fp, H' b = none) ∧ W i m H' := fun {σ9 s' H'} I' hl hk nx => by
        obtain ⟨m', hm, w'⟩ := hNx H' nx
        have pin' : ∀ b ∈ fp, ∀ o, sh7.heap.get? b = some o → s'.heap.get? b = some o ∧ H' b = none := fun b hb o e =>
          let z := I'.pin (b, o) (List.mem_append_right _ (List.mem_append_right _ (mem_pinsAt hb e)))
          ⟨z.1, z.2.1⟩
        refine ⟨m', hm, i + 1, H', (I'.unpinned (pins := [])).weak hl hk, T.keep _ _ _ sta7 fun b hb o e => (pin' b hb o e).1, fun b hb => ?_, w'⟩
        obtain ⟨o, e, _⟩ := T.obj _ _ sta7 b hb
        exact (pin' b hb o e).2
      have hl8 : (wipe σ (own.map (·.2))).length = σ8.length := by rw [← hw8, wipe_length]
      have hk8 : ∀ (j : Nat) v, (wipe σ (own.map (·.2)))[j]? = some (some v) → σ8[j]? = some (some v) := fun j v e => by
        rw [← hw8] at e
        exact (wipe_some e).1
      have hk9 : ∀ (j : Nat) v, (wipe σ (own.map (·.2)))[j]? = some (some v) → (wipe σ8 vs1)[j]? = some (some v) := fun j v e => by
        rw [← hw8] at e
        obtain ⟨e1, e2⟩ := wipe_some e
        rw [wipe_out fun z => e2 (hv j z)]
        exact e1
      cases b with
      | false =>
        simp only [Bool.false_eq_true, if_false] at q9 ⊢
        exact fin iv9 hl8 hk8 q9
      | true =>
        simp only [if_true] at q9 ⊢
        refine thnF (pi1.run _ sh9 σ8 hp9 _ iv9 q9) fun xv sh10 hx => thnF hx fun itv sh11 h11 => ?_
        obtain ⟨it1, fp1, tn1, J1, hp11, e1, iv11, T1, sta11, f11, W1, ⟨m1, w1⟩, turn1⟩ := h11
        subst e1
        -- the inner loop
        have stat1 : ∀ {H' : Hp}, (∀ b ∈ fp1, H' b = none) → ∀ b ∈ fp1, FpOk (X.blk sh3 hp3 scp ce fp) ([] ++ pinsAt fp sh7.heap) H' b := fun hn b hb => ⟨hn b hb, (f11 b hb).2⟩
        have loop1 : codeAny (model X.prog X.w) X.A (.compLoop (.DictComp kx vx [⟨tg, iter, tst, 0⟩, ⟨tg1, iter1, ifs1, 0⟩] scp pos) 1 (.ref it1) (.ref D) ce)
            (fun r s' => match r with
              | .ok _ => ∃ m, m < n ∧ ∃ i H', Inv (X.blk sh3 hp3 scp ce fp) [] (wipe σ (own.map (·.2))) H' s' ∧ tn i s'.heap ∧ (∀ b ∈ fp, H' b = none) ∧ W i m H'
              | .error _ => False) sh11 := by
          refine cLoopD_in (fun k s' => ∃ j H', Inv (X.blk sh3 hp3 scp ce fp) ([] ++ pinsAt fp sh7.heap) (wipe σ8 vs1) H' s' ∧ tn1 j s'.heap ∧ (∀ b ∈ fp1, H' b = none) ∧ W1 j k H') ?_ m1 ⟨0, hp11, iv11.weak (wipe_length _ _) (fun j v e => (wipe_some e).1), sta11, fun b hb => (f11 b hb).1, w1⟩
          rintro k sh12 ⟨j, hp12, iv12, sta12, n12, w12⟩
          rcases turn1 j k hp12 w12 with ⟨stop1, nx1⟩ | ⟨go1, Nx1, hNx1, step1⟩
          · refine thnF (T1.done (X.blk sh3 hp3 scp ce fp) rfl rfl rfl hc j _ sh12 (wipe σ8 vs1) hp12 (fun _ _ => False) iv12 (stat1 n12) sta12 stop1) fun r sh13 ⟨hr, iv13⟩ => ?_
            subst hr
            exact fin iv13 (hl8.trans (wipe_length σ8 vs1).symm) hk9 nx1
          · refine thnF (T1.item (X.blk sh3 hp3 scp ce fp) rfl rfl rfl hc j _ sh12 (wipe σ8 vs1) hp12 (fun _ _ => False) iv12 (stat1 n12) sta12 go1) fun r sh13 ⟨u1, hr, h13⟩ => ?_
            subst hr
            refine thnF h13 fun _ sh14 ⟨x1, hp14, iv14, r14, y14, sta14, n14⟩ => ?_
            have iv14' := iv14.pinned (stat1 n14) (T1.obj _ _ sta14)
            refine thnF (pg1.run _ sh14 (wipe σ8 vs1) hp14 x1 u1 _ iv14' r14 (step1 x1 hp14 y14)) fun _ sh15 ⟨σ15, hp15, iv15, hw15, q15⟩ => ?_
            refine thnF (pt1.run _ sh15 σ15 hp15 _ iv15 q15) fun b1 sh16 ⟨hp16, iv16, q16⟩ => ?_
            have fin1 : ∀ {s' : Shared} {H' : Hp}, Inv (X.blk sh3 hp3 scp ce fp) (([] ++ pinsAt fp sh7.heap) ++ pinsAt fp1 sh14.heap) σ15 H' s' → Nx1 H' → ∃ m, m < k ∧ ∃ j H', Inv (X.blk sh3 hp3 scp ce fp) ([] ++ pinsAt fp sh7.heap) (wipe σ8 vs1) H' s' ∧ tn1 j s'.heap ∧ (∀ b ∈ fp1, H' b = none) ∧ W1 j m H' := fun {s' H'} I' nx => by
              obtain ⟨m', hm, w'⟩ := hNx1 H' nx
              have pin' : ∀ b ∈ fp1, ∀ o, sh14.heap.get? b = some o → s'.heap.get? b = some o ∧ H' b = none := fun b hb o e =>
                let z := I'.pin (b, o) (List.mem_append_right _ (List.mem_append_right _ (mem_pinsAt hb e)))
                ⟨z.1, z.2.1⟩
              refine ⟨m', hm, j + 1, H', I'.unpinned.weak (by rw [← hw15, wipe_length]) (fun j v e => by rw [← hw15] at e; exact (wipe_some e).1), T1.keep _ _ _ sta14 fun b hb o e => (pin' b hb o e).1, fun b hb => ?_, w'⟩
              obtain ⟨o, e, _⟩ := T1.obj _ _ sta14 b hb
              exact (pin' b hb o e).2
            cases b1 with
            | false =>
              simp only [Bool.false_eq_true, if_false] at q16 ⊢
              exact fin1 iv16 q16
            | true =>
              simp only [if_true] at q16 ⊢
              refine thnF (pk.run _ sh16 σ15 hp16 _ iv16 q16) fun z sh17 ⟨yk, hp17, iv17, r17, q17⟩ => ?_
              refine thnF (pe.run _ sh17 σ15 hp17 _ iv17 q17) fun z2 sh18 ⟨yv, hp18, iv18, r18, kvs, k2, ek, hD18, hz18, nx⟩ => ?_
              subst ek
              exact d_dictSet (X := X.blk sh3 hp3 scp ce fp) iv18 hD18 hz18 r17 r18 fun sh19 iv19 => fin1 iv19 nx
        exact cStartD_ok loop1 (T1.self X.A 0 _ _ _ sta11 loop1)
  exact codeAny_compStart_dict loop (T.self X.A 0 _ _ _ sta4 loop)
theorem pe_dc2 {kx vx tg iter tg1 iter1 : Expr} {tst ifs1 : List Expr} {scp : Scope} {own : List (Str × Nat)} {vs1 : List Nat} {pos : Pos} {wi wi1 : TI} {g g1 : TG} {tt tt1 : TT} {tk tv : TE} (hc : X.calm = true) (hN : X.N.Nodup) (hi : PI X tg iter wi) (ok : BlkOk X.N X.env.scope scp own) (hv : ∀ i ∈ vs1, i ∈ own.map (·.2))
    (hg : ∀ (s : Shared) (H : Hp) (C : Addr) (cl : List (Str × Addr)) (fp : List Addr), PG (X.blk s H scp (compEnvC scp cl C X.env) fp) tg g) (ht : ∀ (s : Shared) (H : Hp) (C : Addr) (cl : List (Str × Addr)) (fp : List Addr), PTs (X.blk s H scp (compEnvC scp cl C X.env) fp) tst tt)
    (hi1 : ∀ (s : Shared) (H : Hp) (C : Addr) (cl : List (Str × Addr)) (fp : List Addr), PI (X.blk s H scp (compEnvC scp cl C X.env) fp) tg1 iter1 wi1)
    (hg1 : ∀ (s : Shared) (H : Hp) (C : Addr) (cl : List (Str × Addr)) (fp : List Addr), PG (X.blk s H scp (compEnvC scp cl C X.env) fp) tg1 g1) (ht1 : ∀ (s : Shared) (H : Hp) (C : Addr) (cl : List (Str × Addr)) (fp : List Addr), PTs (X.blk s H scp (compEnvC scp cl C X.env) fp) ifs1 tt1)
    (hk : ∀ (s : Shared) (H : Hp) (C : Addr) (cl : List (Str × Addr)) (fp : List Addr), PE (X.blk s H scp (compEnvC scp cl C X.env) fp) kx tk) (he : ∀ (s : Shared) (H : Hp) (C : Addr) (cl : List (Str × Addr)) (fp : List Addr), PE (X.blk s H scp (compEnvC scp cl C X.env) fp) vx tv) (hs : ∀ x, foldedSetIterable iter X.env x = pure x := by intro _; rfl) (hs1 : ∀ env x, foldedSetIterable iter1 env x = pure x := by intro _ _; rfl) :
    PE X (.DictComp kx vx [⟨tg, iter, tst, 0⟩, ⟨tg1, iter1, ifs1, 0⟩] scp pos) (tDc2 wi g tt wi1 g1 tt1 tk tv (own.map (·.2)) vs1) := by
  refine ⟨fun pns s σ H Q I h => ?_⟩
  rw [arm_eval_DictComp]
  refine dc2_core hc hN I hi ok hv hg ht hk he hs hi1 hg1 ht1 hs1 h fun D C s' m H' I' q hn f => ⟨m, hn, fun h'' sb => ?_⟩
  obtain ⟨f0, f1, f2, f3, f4, f5⟩ := f
  exact ⟨.ref D, H', I'.turned (t' := s'.toks) (fun b o hb e => (sb.2 b hb).trans e) f0 f1 f3 f4 f5, rfl, q⟩

end
end Gx
end Text_Gk
section Text_Gm
set_option Elab.async false
set_option linter.all false
set_option maxRecDepth 100000
set_option maxHeartbeats 4000000
/-! Gm: lambdas without parameters that capture names, as values; handed to a def that calls them. -/
namespace LamZ
open PySem PySem.Spec PyProof.Rows L2 LamY
/-- at f stands a lambda of this text, with these cells; its code object is known -/
def LamC (H : Hp) (f : Addr) (q : Str) (params : Arguments) (body : Expr) (scope : Scope) (cl : List (Str × Addr)) : Prop :=
  ∃ pm c' ctv, H f = some (LamO f (PySem.W.kla_obj "<lambda>" q params body scope cl pm c' ctv)) ∧ H c' = some (LamX.CodeO c' q)
theorem lamO_ne {f : Addr} {ob : Obj} (ps : Array Value) : LamO f ob ≠ .tbl ps := fun z => by
  unfold LamO at z
  cases z
theorem LamC.ext {H H' : Hp} {f : Addr} {q : Str} {params : Arguments} {body : Expr} {scope : Scope} {cl : List (Str × Addr)} (l : LamC H f q params body scope cl) (e : LamX.ExtN H H') : LamC H' f q params body scope cl := by
  obtain ⟨pm, c', ctv, h1, h2⟩ := l
  exact ⟨pm, c', ctv, e _ _ h1 lamO_ne, e _ _ h2 LamX.codeO_ne⟩
/-- a lambda is made -/
def tLambC (P : Addr) (q : Str) (params : Arguments) (body : Expr) (scope : Scope) (cl : List (Str × Addr)) : TE := fun _ H Q => LamX.TabS H P q ∧ ∀ H1 f, But P H H1 → LamX.TabS H1 P q → LamC H1 f q params body scope cl → Q (.ref f) H1
section
variable {X : Cx} {pins : List (Addr × Obj)} {σ : L2.St} {H : Hp} {s : Shared}
theorem pe_lambdaC {c P : Addr} {params : Arguments} {body : Expr} {scope : Scope} {pos : Pos} (TB : LamX.TabB X.base X.mg c P) (hcode : X.env.code = .ref c) (hdef : defaultsOf params X.env = ([], []))
    (L : LamX.LamS X.env.scope scope) : PE X (.Lambda params body scope pos) (tLambC P (X.env.qual ++ "<lambda>") params body scope (cloFrom X.env.cells scope.names [])) := by
  refine ⟨fun pins s σ H Q I h => ?_⟩
  obtain ⟨hT, h⟩ := h
  obtain ⟨ps, hP, ht, ha⟩ := hT
  refine PySem.W.kla_eval hdef ?_
  have bP := TB.bm.keeps I.bk
  have tabP : s.heap.get? P = some { cls := .none, data := .fields ps } := I.hok P _ hP
  have hclo := L.has I.ok
  cases hc : codeAmong pos ps.toList with
  | none =>
    refine PySem.W.kla_makeFunction (mg := X.mg) (c := c) (P := P) (ps := ps) (closure_ok hclo) I.ok.glob (I.mod.glob.keeps I.bk) hcode (TB.code.keeps I.bk) tabP ht hc TB.gP bP ?_
    intro c' ctv h' tk hx hge hlt hrec htb
    obtain ⟨c2, oc, vs, t, e2, hoc, hd, hv⟩ := hrec
    cases e2
    have nC : H c' = none := I.hok.fresh hge
    have I1 := LamX.inv_table (t' := tk) (more := #[rawInt pos.line, rawInt pos.col, .ref c']) (h' := h') I hP (fun b o hb e => hx b o hb e) htb hge ⟨oc, vs, t, hoc, hd, hv⟩
    have fr1 := I1.hok.fresh (Nat.le_refl h'.objs.size)
    have I2 := I1.laid (a := h'.objs.size) (o := LamO h'.objs.size (PySem.W.kla_obj "<lambda>" (X.env.qual ++ "<lambda>") params body scope (cloFrom X.env.cells scope.names []) ((X.mg "__name__").getD .none) c' ctv))
      (h' := h'.push (PySem.W.kla_obj "<lambda>" (X.env.qual ++ "<lambda>") params body scope (cloFrom X.env.cells scope.names []) ((X.mg "__name__").getD .none) c' ctv)) (t' := tk) (fun b u e => Heap.get?_push_of_some _ e) (Nat.le_refl _) (lamO_ok (Heap.get?_push_size _ rfl))
    have but1 : But P H (upd (upd H P (.tbl (ps ++ #[rawInt pos.line, rawInt pos.col, .ref c']))) c' (LamX.CodeO c' (X.env.qual ++ "<lambda>"))) := fun b o hb e => by
      rw [upd_ne (ne_of_none e nC), upd_ne hb]
      exact e
    have up : ∀ b o, (upd (upd H P (.tbl (ps ++ #[rawInt pos.line, rawInt pos.col, .ref c']))) c' (LamX.CodeO c' (X.env.qual ++ "<lambda>"))) b = some o → ∀ u, upd (upd (upd H P (.tbl (ps ++ #[rawInt pos.line, rawInt pos.col, .ref c']))) c' (LamX.CodeO c' (X.env.qual ++ "<lambda>"))) h'.objs.size u b = some o := fun b o e u => by
      rw [upd_ne (ne_of_none e fr1)]
      exact e
    have eL : (ps ++ #[rawInt pos.line, rawInt pos.col, .ref c']).toList = ps.toList ++ [rawInt pos.line, rawInt pos.col, .ref c'] := by simp
    have nPc : P ≠ c' := ne_of_none hP nC
    refine h _ _ (fun b o hb e => up b o (but1 b o hb e) _) ⟨_, up _ _ (by rw [upd_ne nPc, upd_same]) _, by rw [eL]; exact PySem.TriplesOk_snoc _ _ _ _ ht, fun p' cv hcv => ?_⟩ ⟨_, c', ctv, upd_same, up _ _ upd_same _⟩ |> fun q => ⟨.ref h'.objs.size, _, I2, rfl, q⟩
    rw [eL] at hcv
    rcases LamX.among_app _ ht hcv with z | z
    · obtain ⟨c0, e1, e2⟩ := ha p' cv z
      exact ⟨c0, e1, up _ _ (but1 _ _ (fun q => by rw [q, hP] at e2; exact LamX.codeO_ne _ (Option.some.inj e2).symm) e2) _⟩
    · exact ⟨c', z, up _ _ upd_same _⟩
  | some cv =>
    obtain ⟨c', e, hco⟩ := ha pos cv hc
    subst e
    refine PySem.W.kla_makeFunctionHit (mg := X.mg) (c := c) (P := P) (ps := ps) (closure_ok hclo) I.ok.glob (I.mod.glob.keeps I.bk) hcode (TB.code.keeps I.bk) tabP ht hc bP ?_
    intro ctv h' tk hx hsz
    have I2 := I.laid (a := h'.objs.size) (o := LamO h'.objs.size (PySem.W.kla_obj "<lambda>" (X.env.qual ++ "<lambda>") params body scope (cloFrom X.env.cells scope.names []) ((X.mg "__name__").getD .none) c' ctv))
      (h' := h'.push (PySem.W.kla_obj "<lambda>" (X.env.qual ++ "<lambda>") params body scope (cloFrom X.env.cells scope.names []) ((X.mg "__name__").getD .none) c' ctv)) (t' := tk) (fun b u e => Heap.get?_push_of_some _ (hx b u e)) hsz (lamO_ok (Heap.get?_push_size _ rfl))
    have fr1 := I.hok.fresh hsz
    have up : ∀ b o, H b = some o → ∀ u, upd H h'.objs.size u b = some o := fun b o e u => by
      rw [upd_ne (ne_of_none e fr1)]
      exact e
    refine ⟨.ref h'.objs.size, _, I2, rfl, h _ _ (fun b o _ e => up b o e _) ⟨ps, up _ _ hP _, ht, fun p' cv hcv => ?_⟩ ⟨_, c', ctv, upd_same, up _ _ hco _⟩⟩
    obtain ⟨c0, e1, e2⟩ := ha p' cv hcv
    exact ⟨c0, e1, up _ _ e2 _⟩

/-- x(), in the def that got the lambda: the lambda's object is tracked -/
theorem pe_actT {CXg : CXT} {Eg : XK} {Ng : List Str} {qg : Str} {sg : Scope} {g f c' : Addr} {cdg pm ctv : Value} {params : Arguments} {body : Expr} {scope : Scope} {k i : Nat} {a : Str} {pn : List (Addr × Obj)} {xe : Value → Shared → Prop} {W : WX} {E : XK} {tb : TE} {p1 p2 : Pos}
    (I : Inv X pins σ H s) (L : LamX.LamS X.env.scope scope)
    (hbind : bindArgs (PySem.W.kla_fn "<lambda>" (X.env.qual ++ "<lambda>") params body scope (cloFrom X.env.cells scope.names []) pm (.ref c') ctv) ⟨[], []⟩ = pure [])
    (tk : Takes ((cxOf CXg X.prog X.w X.K X.mg X.base Ng qg sg g cdg X.A X.stack s H Eg).tr pn xe) W) (hW : ∀ cls d σ' H', E cls d H' → W cls d σ' H') (hr : Room (k + 1) (X.A.deeper (envOfC qg sg s.heap.objs.size g cdg)))
    (hbody : ∀ (A : Around) (outer : List Env) (s : Shared) (H : Hp), Room k (A.deeper (LamX.lamEnv X scope s.heap.objs.size f c')) → PE (LamX.lamCx X A outer s H E scope f c') body tb)
    (hN : Ng[i]? = some a) (hv : Vis sg a) (hd : (a == ("__debug__" : Str)) = false := by decide) (hcd : (a == ("__classdict__" : Str)) = false := by decide) :
    PE ((cxOf CXg X.prog X.w X.K X.mg X.base Ng qg sg g cdg X.A X.stack s H Eg).tr pn xe) (.Call (.Name a p1) [] [] p2)
      (fun σ1 H1 Q => σ1[i]? = some (some (.ref f)) ∧ H1 c' = some (LamX.CodeO c' (X.env.qual ++ "<lambda>")) ∧ H1 f = some (LamO f (PySem.W.kla_obj "<lambda>" (X.env.qual ++ "<lambda>") params body scope (cloFrom X.env.cells scope.names []) pm c' ctv)) ∧ tb σ H1 Q) := by
  refine ⟨fun pins1 s0 σ1 H1 Q I0 h => ?_⟩
  obtain ⟨hs, hc, hl, ht⟩ := h
  refine wpAny_Call_Name_kw (thn ((pe_var (pos := p1) (i := i) hN hv hd hcd).run pins1 s0 σ1 H1 (fun v H2 => v = .ref f ∧ H2 = H1) I0 ⟨.ref f, hs, rfl, rfl⟩) fun u s1 ⟨v, H2, I1, r1, q1⟩ => ?_)
  obtain ⟨ev, eH⟩ := q1
  subst ev
  rw [eH] at I1
  obtain rfl : u = Value.ref f := r1
  have of1 := (I1.hok f _ hl).1
  refine PySem.W.callWith_F0 ⟨_, _, _, _, of1⟩ ?_
  have un : Un (frs X.stack) [] H H1 s.heap s1.heap := I1.base
  obtain ⟨⟨oc, vs, t, hoc, hdc, hvc⟩, _, _⟩ := I1.hok c' _ hc
  have rc : codeAny (model X.prog X.w) (X.A.deeper (envOfC qg sg s.heap.objs.size g cdg)) (.call (.ref f) ⟨[], []⟩) (CR (L2.CX X.prog X.w) (envOfC qg sg s.heap.objs.size g cdg :: X.stack) X.prog X.w H1 s1 Q E) s1 := by
    refine PySem.W.kla_callFunE hr.depth of1 rfl L.co L.gen rfl ⟨c', oc, vs, t, rfl, hoc, hdc, hvc⟩ ?_
    rw [hbind]
    refine wpAny_pure (wpAny_newFunctionEnv (fun y hy => (L.own y hy).2) (fun y hy => absurd hy (by simp)) (fun hx hns hsb => ⟨I1.nolimit.fresh _ hsb, ?_⟩) L.kind)
    have kp : ∀ b o, s1.heap.get? b = some o → hx.get? b = some o := fun b o e => hsb.extBut b o (Nat.ne_of_lt (Heap.lt_size e)) (Heap.get?_push_of_some _ e)
    have J := LamX.lam_start2 (E := E) (f := f) (c' := c') (tk := s1.toks + ([] : List (Str × Value)).length) I L I1.env0 hr.hd un hns kp
    refine PySem.W.kla_codeExpr (wpAny_mono ((hbody _ _ s1 H1 (hr.deeper _)).run [] _ _ H1 Q J ht) (fun v s' hq => ?_) fun e s' hq => hq)
    obtain ⟨w', H', J', rv, q⟩ := hq
    exact ⟨w', H', J'.os, J'.bare, J'.base, J'.hok, rv, q⟩
  have hx : Passes (L2.CX X.prog X.w) ((cxOf CXg X.prog X.w X.K X.mg X.base Ng qg sg g cdg X.A X.stack s H Eg).tr pn xe) E := passes_call tk hW
  refine wpAny_call (codeAny_mono rc fun r s' hq => ?_)
  cases r with
  | error e => exact hx pins1 σ1 H1 s1 e s' I1 hq
  | ok fl =>
    cases fl with
    | ret u => exact I1.after hq
    | next => exact False.elim hq
    | brk => exact False.elim hq
    | cont => exact False.elim hq
end
/-- another context of the same def -/
abbrev alt (X : Cx) (s0 : Shared) (H0 : Hp) (env : Env) (outer : List Env) (ex : List Addr) (fn : Str → Bool) (pn : List (Addr × Obj)) (xe : Value → Shared → Prop) : Cx := { X with s_0 := s0, H_0 := H0, env := env, outer := outer, ex := ex, fn := fn, pn := pn, xe := xe }
section
variable {X : Cx} {s0 : Shared} {H0 : Hp} {env : Env} {outer : List Env} {ex : List Addr} {fn : Str → Bool} {pn : List (Addr × Obj)} {xe : Value → Shared → Prop}
/-- x(e), e a lambda that X has made, x the def that calls it -/
theorem pe_hand {TT : (XK → Hp → VK → Prop) → Hp → VK → Prop} {x a : Str} {g : Addr} {k : Nat} {pg : Arguments} {bg : List Stmt} {sg : Scope} {dV kV doc pm cdv ct oc : Value} {an od : Option Addr} {osl : Array (Option Value)} {Ng : List Str}
    {params : Arguments} {body : Expr} {scope : Scope} {t : XK → TE} {e : Expr} {te : TE} {p pos : Pos} (sel : L2.St → L2.St) (hg : Gl (alt X s0 H0 env outer ex fn pn xe) x) (hm : X.mg x = some (.ref g)) (hk : PySem.W.keepIn X.K (.ref g) = true)
    (lk : X.K.lookup g = some ⟨oc, od, .func (PySem.W.fnOf x x pg bg sg dV kV doc pm an cdv ct), osl⟩) (hcg : PySem.W.codeIn X.K cdv x = true) (hb : L2.Binds X.K (PySem.W.fnOf x x pg bg sg dV kV doc pm an cdv ct) [a] []) (Sg : FnScope Ng [a] sg) (hNg : Ng[0]? = some a) (hva : Vis sg a)
    (hG : LamX.GivesTo X Ng x sg g cdv bg a (X.env.qual ++ "<lambda>") TT) (he : PE (alt X s0 H0 env outer ex fn pn xe) e te) (hM : ∀ {pins σ H s}, Inv (alt X s0 H0 env outer ex fn pn xe) pins σ H s → ∃ pX, Inv X pX (sel σ) H s)
    (hr : Room (k + 2) X.A) (L : LamX.LamS X.env.scope scope)
    (hbind : ∀ (q : Str) (cl : List (Str × Addr)) (pm cv ctv : Value), bindArgs (PySem.W.kla_fn "<lambda>" q params body scope cl pm cv ctv) ⟨[], []⟩ = pure [])
    (hbody : ∀ (A : Around) (outer : List Env) (s : Shared) (H : Hp) (E : XK) (f c' : Addr), Room k (A.deeper (LamX.lamEnv X scope s.heap.objs.size f c')) → PE (LamX.lamCx X A outer s H E scope f c') body (t E))
    (hst : starEach [e] env = (false, eval e env) :: starEach [] env := by rfl)
    (hdb : (x == ("__debug__" : Str)) = false := by decide) (hd : (a == ("__debug__" : Str)) = false := by decide) (hcd : (a == ("__classdict__" : Str)) = false := by decide) :
    PE (alt X s0 H0 env outer ex fn pn xe) (.Call (.Name x p) [e] [] pos) (fun σ H Q => te σ H fun v H1 => ∃ f pm c' ctv, v = .ref f ∧ H1 f = some (LamO f (PySem.W.kla_obj "<lambda>" (X.env.qual ++ "<lambda>") params body scope (cloFrom X.env.cells scope.names []) pm c' ctv)) ∧ H1 c' = some (LamX.CodeO c' (X.env.qual ++ "<lambda>")) ∧
      TT (fun E H' Q' => H' f = some (LamO f (PySem.W.kla_obj "<lambda>" (X.env.qual ++ "<lambda>") params body scope (cloFrom X.env.cells scope.names []) pm c' ctv)) ∧ t E (sel σ) H' Q') H1 Q) := by
  refine ⟨fun pins s σ H Q I h => ?_⟩
  refine wpAny_Call_Name_kw (ld_glob I hg hm ?_ hdb)
  refine PySem.W.callWith_K (h₀ := X.base) I.ok.mod.kin hk ?_ hst (by rfl)
  rw [hst]
  show wpAny _ _ (spliced ((false, eval e env) :: backTo pos (starEach [] env))) _ _ s
  refine Calls.spliced_cons (thn (he.run pins s σ H _ I h) fun u s' ⟨v, H1, I1, rv, hq⟩ => ?_)
  obtain ⟨f, pm', c', ctv, ev, hf, hco, h⟩ := hq
  subst ev
  obtain rfl : u = Value.ref f := rv
  refine Calls.spliced_nil ⟨I1.kIn, ?_⟩
  obtain ⟨pX, IX⟩ := hM I1
  have rc : codeAny (model X.prog X.w) X.A (.call (.ref g) ⟨[.ref f], []⟩) (CR C8.CX0 X.stack X.prog X.w H1 s' Q C8.E0) s' := by
    refine LamX.run_ofS (N := Ng) (ps := [a]) (us := [.ref f]) (vs := [.ref f]) lk hcg Sg hr I1.env0 (hb s' [.ref f] I1.kIn rfl) (.cons rfl .nil) rfl fun hr' => ?_
    obtain ⟨t', ht', hq'⟩ := hG f c' s' H1 Q _ (fun W pn xe E p1 p2 tk hW => pe_actT (i := 0) IX L (hbind _ _ _ _ _) tk hW hr' (fun A outer s H hr2 => hbody A outer s H E f c' hr2) hNg hva hd hcd) hco h
    exact ⟨t', ht'.nox, hq'⟩
  refine wpAny_call (codeAny_mono rc fun r s2 hq => ?_)
  cases r with
  | error e => exact (show False from hq).elim
  | ok fl =>
    cases fl with
    | ret u => exact I1.after hq
    | next => exact False.elim hq
    | brk => exact False.elim hq
    | cont => exact False.elim hq
end
end LamZ
end Text_Gm
section Text_Gp
set_option Elab.async false
set_option linter.all false
set_option maxRecDepth 100000
set_option maxHeartbeats 4000000
/-! Gp: list comprehensions whose tests know what held of the def when they were begun. -/
namespace Gx
open PySem PySem.Spec PyProof.Rows L2 GxR
section
variable {X : Cx}
theorem lcP_core {pns : List (Addr × Obj)} {s : Shared} {σ : L2.St} {H : Hp} {Q : VK} {elt tg iter : Expr} {tst : List Expr} {scp : Scope} {own : List (Str × Nat)} {pos pos' : Pos} {wi : TI} {g : TG} {tt : TT} {te : TE} {use : Option (Value → Sem Unit)} {Qf : Value → Shared → Prop}
    (hc : X.calm = true) (hN : X.N.Nodup) (I : Inv X pns σ H s) (hi : PI X tg iter wi) (ok : BlkOk X.N X.env.scope scp own)
    (hg : ∀ (s : Shared) (H : Hp) (C : Addr) (cl : List (Str × Addr)) (fp : List Addr), PG (X.blk s H scp (compEnvC scp cl C X.env) fp) tg g) (ht : ∀ (s : Shared) (H : Hp) (C : Addr) (cl : List (Str × Addr)) (fp : List Addr), Inv X pns σ H s → (∀ b ∈ fp, FpOk X pns H b ∧ b < s.heap.objs.size) → PTs (X.blk s H scp (compEnvC scp cl C X.env) fp) tst tt)
    (he : ∀ (s : Shared) (H : Hp) (C : Addr) (cl : List (Str × Addr)) (fp : List Addr), PE (X.blk s H scp (compEnvC scp cl C X.env) fp) elt te) (hs : ∀ x, foldedSetIterable iter X.env x = pure x)
    (h : tLc wi g tt te (own.map (·.2)) σ H Q)
    (hRR : ∀ D C s' m H', Inv X pns σ H' s' → Q (.ref D) H' → s'.heap.Ns C m → FpOk X pns H' C → compPost (model X.prog X.w) X.A X.xe use Qf (.ref D) C (.ok .next) s') :
    wpAny (model X.prog X.w) X.A (comprehension (.ListComp elt [⟨tg, iter, tst, 0⟩] scp pos) scp X.env pos' (newList []) false (eval iter X.env) use) Qf X.xe s := by
  have hfree : ∀ y ∈ scp.names, y.2 = .free → ∃ c, X.env.cells.lookup y.1 = some c := fun y hy e => by
    rcases ok.free y hy e with k | k
    · exact I.ok.has _ (.inl k)
    · exact I.ok.has _ (.inr k)
  refine wpAny_comprehension_free (use := use) rfl hs (closure_ok hfree) ok.kind (fun y hy e => by rw [ok.uniq y hy, e])
    (thn (hi.run pns s σ H _ I h) fun xv sh1 hx => thn hx fun itv sh2 h2 => ?_)
  obtain ⟨it, fp, tn, J, hp2, e, iv2, T, sta2, f2, q⟩ := h2
  subst e
  refine wpAny_newObj_type (newEnv_comp ?_) (by show 0 ≤ sizeLine; decide)
  generalize hD : sh2.heap.objs.size = D
  have hDn : hp2 D = none := iv2.hok.fresh (Nat.le_of_eq hD)
  obtain ⟨W, ⟨m0, w0⟩, turn⟩ := q D hDn
  -- the new list
  generalize hs3 : ({ sh2 with heap := sh2.heap.push { cls := .type "list", data := .seq ([] : List Value).toArray } } : Shared) = sh3
  have iv3 : Inv X pns σ (upd hp2 D (.lst [])) sh3 := by
    rw [← hs3]
    refine iv2.laid (t' := sh2.toks) (fun b o e => Heap.get?_push_of_some _ e) (Nat.le_of_eq hD) ⟨Nat.zero_le _, [], 0, .nil, ?_⟩
    rw [← hD]
    exact Heap.get?_push_size _ rfl
  have h3 : sh3.heap = sh2.heap.push { cls := .type "list", data := .seq ([] : List Value).toArray } := by rw [← hs3]
  have sz : ∀ b ∈ fp, b < sh2.heap.objs.size := fun b hb => by
    obtain ⟨o, e, _⟩ := T.obj _ _ sta2 b hb
    exact Heap.lt_size e
  have f3 : ∀ b ∈ fp, FpOk X pns (upd hp2 D (.lst [])) b ∧ b < sh3.heap.objs.size := fun b hb => by
    have hlt := sz b hb
    refine ⟨⟨?_, (f2 b hb).2⟩, by rw [h3, Heap.size_push]; exact Nat.lt_succ_of_lt hlt⟩
    rw [upd_ne (by rw [← hD]; exact Nat.ne_of_lt hlt)]
    exact (f2 b hb).1
  have sta3 : tn 0 sh3.heap := T.keep _ _ _ sta2 fun b _ o e => by rw [h3]; exact Heap.get?_push_of_some _ e
  have iv4 := block_start iv3 ok hN f3
  have pg := hg sh3 (upd hp2 D (.lst [])) sh3.heap.objs.size (cellsFrom (sh3.heap.objs.size + 1) scp.names (cloFrom X.env.cells scp.names [])) fp
  have pt := ht sh3 (upd hp2 D (.lst [])) sh3.heap.objs.size (cellsFrom (sh3.heap.objs.size + 1) scp.names (cloFrom X.env.cells scp.names [])) fp iv3 f3
  have pe := he sh3 (upd hp2 D (.lst [])) sh3.heap.objs.size (cellsFrom (sh3.heap.objs.size + 1) scp.names (cloFrom X.env.cells scp.names [])) fp
  show codeAny _ _ (.compStart (.ListComp elt [⟨tg, iter, tst, 0⟩] scp pos) 0 (.ref it) (.ref D) (compEnvC scp (cellsFrom (sh3.heap.objs.size + 1) scp.names (cloFrom X.env.cells scp.names [])) sh3.heap.objs.size X.env)) (compPost (model X.prog X.w) X.A X.xe use Qf (.ref D) sh3.heap.objs.size) { sh3 with heap := pushCells (sh3.heap.push { cls := .type "dict", data := .dict #[] }) scp.names }
  have nfp : ∀ b ∈ fp, (upd hp2 D (.lst [])) b = none := fun b hb => (f3 b hb).1.1
  generalize hce : compEnvC scp (cellsFrom (sh3.heap.objs.size + 1) scp.names (cloFrom X.env.cells scp.names [])) sh3.heap.objs.size X.env = ce at iv4 pg pt pe ⊢
  have cL : ce.locals = sh3.heap.objs.size := by subst hce; rfl
  generalize hH3 : upd hp2 D (.lst []) = hp3 at iv3 iv4 pg pt pe w0 nfp f3
  generalize hs4 : ({ sh3 with heap := pushCells (sh3.heap.push { cls := .type "dict", data := .dict #[] }) scp.names } : Shared) = sh4 at iv4 ⊢
  have sta4 : tn 0 sh4.heap := T.keep _ _ _ sta3 fun b _ o e => by rw [← hs4]; exact pushCells_keeps _ _ _ _ (Heap.get?_push_of_some _ e)
  have stat : ∀ {σ' : L2.St} {H' : Hp} {s' : Shared}, Inv (X.blk sh3 hp3 scp ce fp) [] σ' H' s' → (∀ b ∈ fp, H' b = none) → ∀ b ∈ fp, FpOk (X.blk sh3 hp3 scp ce fp) [] H' b := fun {σ' H' s'} I' hn b hb =>
    ⟨hn b hb, (I'.ok.exf b hb).1, I'.ok.exfs b hb, .inl hb, fun x c e => (I'.ok.exf b hb).2 x c e, fun p hp => absurd (show p ∈ ([] : List (Addr × Obj)) ++ [] from hp) (by simp)⟩
  have loop : codeAny (model X.prog X.w) X.A (.compLoop (.ListComp elt [⟨tg, iter, tst, 0⟩] scp pos) 0 (.ref it) (.ref D) ce) (compPost (model X.prog X.w) X.A X.xe use Qf (.ref D) sh3.heap.objs.size) sh4 := by
    refine compLoop_any (fun n s' => ∃ i H', Inv (X.blk sh3 hp3 scp ce fp) [] (wipe σ (own.map (·.2))) H' s' ∧ tn i s'.heap ∧ (∀ b ∈ fp, H' b = none) ∧ W i n H') ?_ m0 ⟨0, hp3, iv4, sta4, nfp, w0⟩
    rintro n sh5 ⟨i, hp5, iv5, sta5, n5, w5⟩
    rcases turn i n hp5 w5 with ⟨stop, qq⟩ | ⟨go, Nx, hNx, step⟩
    · have td := T.done (X.blk sh3 hp3 scp ce fp) rfl rfl rfl hc i [] sh5 _ hp5 (fun _ _ => False) iv5 (stat iv5 n5) sta5 stop
      refine thnF td fun r sh6 ⟨hr, iv6⟩ => ?_
      subst hr
      -- back in the def's context
      have iv7 : Inv X pns σ hp5 sh6 := iv3.call' (ch := fp) iv6.os iv6.base iv6.hok iv6.bare fun b hb => ⟨(f3 b hb).1.2.2.2.1, (f3 b hb).1.2.1, (f3 b hb).1.2.2.2.2.1, (f3 b hb).1.2.2.2.2.2⟩
      have nC : hp5 sh3.heap.objs.size = none := by
        have z : hp5 ce.locals = none := iv6.free
        rw [cL] at z
        exact z
      obtain ⟨m, hn, _⟩ := iv6.loc
      have hn : sh6.heap.Ns ce.locals m := hn
      rw [cL] at hn
      exact hRR D sh3.heap.objs.size sh6 m hp5 iv7 qq hn (iv3.fpOk (Nat.le_refl _) nC)
    · have ti := T.item (X.blk sh3 hp3 scp ce fp) rfl rfl rfl hc i [] sh5 _ hp5 (fun _ _ => False) iv5 (stat iv5 n5) sta5 go
      refine thnF ti fun r sh6 ⟨u, hr, h6⟩ => ?_
      subst hr
      refine thnF h6 fun _ sh7 ⟨x, hp7, iv7, r7, y7, sta7, n7⟩ => ?_
      have iv7' := iv7.pinned (stat iv7 n7) (T.obj _ _ sta7)
      refine thnF (pg.run _ sh7 _ hp7 x u _ iv7' r7 (step x hp7 y7)) fun _ sh8 ⟨σ8, hp8, iv8, hw8, q8⟩ => ?_
      refine thnF (pt.run _ sh8 σ8 hp8 _ iv8 q8) fun b sh9 ⟨hp9, iv9, q9⟩ => ?_
      -- the turn's end
      have fin : ∀ {s' : Shared} {H' : Hp}, Inv (X.blk sh3 hp3 scp ce fp) ([] ++ pinsAt fp sh7.heap) σ8 H' s' → Nx H' → ∃ m, m < n ∧ ∃ i H', Inv (X.blk sh3 hp3 scp ce fp) [] (wipe σ (own.map (·.2))) H' s' ∧ tn i s'.heap ∧ (∀ b ∈ fp, H' b = none) ∧ W i m H' := fun {s' H'} I' nx => by
        obtain ⟨m', hm, w'⟩ := hNx H' nx
        have pin' : ∀ b ∈ fp, ∀ o, sh7.heap.get? b = some o → s'.heap.get? b = some o ∧ H' b = none := fun b hb o e =>
          let z := I'.pin (b, o) (List.mem_append_right _ (List.mem_append_right _ (mem_pinsAt hb e)))
          ⟨z.1, z.2.1⟩
        have hl : (wipe σ (own.map (·.2))).length = σ8.length := by rw [← hw8, wipe_length]
        refine ⟨m', hm, i + 1, H', (I'.unpinned (pins := [])).weak hl (fun j v e => ?_), T.keep _ _ _ sta7 fun b hb o e => (pin' b hb o e).1, fun b hb => ?_, w'⟩
        · rw [← hw8] at e
          exact (wipe_some e).1
        · obtain ⟨o, e, _⟩ := T.obj _ _ sta7 b hb
          exact (pin' b hb o e).2
      cases b with
      | false =>
        simp only [Bool.false_eq_true, if_false] at q9 ⊢
        exact fin iv9 q9
      | true =>
        simp only [if_true] at q9 ⊢
        refine thnF (pe.run _ sh9 σ8 hp9 _ iv9 q9) fun z sh10 ⟨yv, hp10, iv10, r10, acc, hD10, hz10, nx⟩ => ?_
        exact app_ok (X := X.blk sh3 hp3 scp ce fp) iv10 hD10 hz10 r10 fun sh11 iv11 => fin iv11 nx
  exact codeAny_compStart_list loop (T.self X.A 0 _ _ _ sta4 loop)
theorem pe_lcP {elt tg iter : Expr} {tst : List Expr} {scp : Scope} {own : List (Str × Nat)} {pos : Pos} {wi : TI} {g : TG} {tt : L2.St → TT} {te : TE} (hc : X.calm = true) (hN : X.N.Nodup) (hi : PI X tg iter wi) (ok : BlkOk X.N X.env.scope scp own)
    (hg : ∀ (s : Shared) (H : Hp) (C : Addr) (cl : List (Str × Addr)) (fp : List Addr), PG (X.blk s H scp (compEnvC scp cl C X.env) fp) tg g) (ht : ∀ (pns : List (Addr × Obj)) (σ : L2.St) (s : Shared) (H : Hp) (C : Addr) (cl : List (Str × Addr)) (fp : List Addr), Inv X pns σ H s → (∀ b ∈ fp, FpOk X pns H b ∧ b < s.heap.objs.size) → PTs (X.blk s H scp (compEnvC scp cl C X.env) fp) tst (tt σ))
    (he : ∀ (s : Shared) (H : Hp) (C : Addr) (cl : List (Str × Addr)) (fp : List Addr), PE (X.blk s H scp (compEnvC scp cl C X.env) fp) elt te) (hs : ∀ x, foldedSetIterable iter X.env x = pure x := by intro _; rfl) :
    PE X (.ListComp elt [⟨tg, iter, tst, 0⟩] scp pos) (fun σ H Q => tLc wi g (tt σ) te (own.map (·.2)) σ H Q) := by
  refine ⟨fun pns s σ H Q I h => ?_⟩
  rw [eval_ListComp]
  refine lcP_core hc hN I hi ok hg (ht pns σ) he hs h fun D C s' m H' I' q hn f => ⟨m, hn, fun h'' sb => ?_⟩
  obtain ⟨f0, f1, f2, f3, f4, f5⟩ := f
  exact ⟨.ref D, H', I'.turned (t' := s'.toks) (fun b o hb e => (sb.2 b hb).trans e) f0 f1 f3 f4 f5, rfl, q⟩
/-- within the comprehension the def's own context still holds -/
theorem blk_back {pns ps : List (Addr × Obj)} {σ σ2 : L2.St} {H hp2 : Hp} {s sh2 : Shared} {scp : Scope} {ce : Env} {fp : List Addr} (I : Inv X pns σ H s) (f : ∀ b ∈ fp, FpOk X pns H b ∧ b < s.heap.objs.size) (J : Inv (X.blk s H scp ce fp) ps σ2 hp2 sh2) : Inv X pns σ hp2 sh2 :=
  I.call' (ch := fp) J.os J.base J.hok J.bare fun b hb => ⟨(f b hb).1.2.2.2.1, (f b hb).1.2.1, (f b hb).1.2.2.2.2.1, (f b hb).1.2.2.2.2.2⟩
end
end Gx
end Text_Gp
section Text_Gq
set_option Elab.async false
set_option linter.all false
set_option maxRecDepth 100000
set_option maxHeartbeats 4000000
namespace Gx
open PySem PySem.Spec PyProof.Rows L2 GxR
open PySem.W (alike dataLt)
open PySem.SeqAt
/-! min(xs) of a list of alike data: the item itself -/
theorem min_list_at {prog : Program} {w : World} {A : Around} {E : Value → Shared → Prop} {s : Shared} {l : Addr} {vs : Array Value} {x : PyData} {xs : List PyData} {as : List Addr} {Q : Value → Shared → Prop} (hh : A.handled = none) (hl : s.heap.IsList l vs) (hr : ReadsAll s.heap vs.toList (x :: xs) as) (ha : PySem.W.AlikeAll (x :: xs)) (hu : A.units + 1 + PyData.depthAll (x :: xs) < cLine)
    (h : ∀ (i : Nat) v h' tk, vs[i]? = some v → (x :: xs).getD i .none = PySem.W.minD x xs → (∀ b o, s.heap.get? b = some o → h'.get? b = some o) → Q v { s with heap := h', toks := tk }) :
    wpAny (model prog w) A (call (.builtin "min") [.ref l]) Q E s := by
  have hn : vs.size = xs.length + 1 := PySem.W.readsAll_len hr
  refine call_min_walkH (PySem.W.iter_listW (A := A.in1) hh hl fun s₂ e W st hfp hw hk => ?_)
  refine ⟨_, _, _, _, _, _, _, s.heap, _, rfl, W, st, hfp, by omega, hw, hk, PySem.W.cmpIn_lt (A := A.in1) hr ha (by show A.units + 1 + _ < _; exact hu), fun v s' hP m => ?_⟩
  obtain ⟨h', tk, rfl, hk'⟩ := PySem.W.moved_old e rfl m
  have e1 : vs.size - 1 = xs.length := by omega
  have e2 := (PySem.W.argBest_fold dataLt PyData.none x xs xs.length (Nat.le_refl _)).2
  rw [List.take_length] at e2
  rw [e1] at hP
  exact h _ v h' tk hP e2 hk'
def rMinD (K : PySem.W.Frag) : List V → Hp → VK → Prop := fun vs H Q => ∃ (a : Addr) (xs : List V) (d : PyData) (ds : List PyData), vs = [V.ref a] ∧ SqL K H a xs ∧ DpAll K H xs (d :: ds) ∧ PySem.W.AlikeAll (d :: ds) ∧ PyData.depthAll (d :: ds) ≤ 60 ∧ ∀ (i : Nat) (x : V), xs[i]? = some x → (d :: ds).getD i .none = PySem.W.minD d ds → Q x H
theorem cr_minD {X : Cx} (hc : X.calm = true) (hu : X.A.units + 64 < cLine) : CallR X (.builtin "min") (rMinD X.K) := by
  intro pins s σ H vs us Q I r h
  obtain ⟨a, xs, d, ds, rfl, hs, hd, ha, hdp, q⟩ := h
  obtain ⟨its, rv, hl, _⟩ := I.list hs
  rw [Vals.ref1 r]
  obtain ⟨as, q1⟩ := Dp.readsAll I _ _ _ hd rv
  refine min_list_at (I.ok.hd hc) hl.isList q1 ha (by omega) fun i v h' tk hv hm hk => ?_
  have hv : its[i]? = some v := by simpa using hv
  cases e : xs[i]? with
  | none =>
    have := Vals.none_of rv e
    rw [this] at hv
    cases hv
  | some y =>
    obtain ⟨u, hu2, ry⟩ := rv.get e
    rw [hv] at hu2
    cases hu2
    exact ⟨y, H, I.kept hk, ry, q i y e hm⟩
end Gx
end Text_Gq
section Text_Gr
set_option Elab.async false
set_option linter.all false
set_option maxRecDepth 100000
set_option maxHeartbeats 4000000
/-! Gr: d.update(e), both dicts of int and text keys. -/
namespace Gx
open PySem PySem.Spec PyProof.Rows L2 GxR
def tDUpd (td ty : TE) : TE := fun σ H Q => td σ H fun x H1 => ∃ a, x = .ref a ∧ IsD H1 a ∧ ty σ H1 fun y H2 => ∃ b kvs more, y = .ref b ∧ H2 a = some (.dK kvs) ∧ Rd H2 b (.dK more) ∧ a ≠ b ∧ kvs.length + more.length ≤ sizeLine ∧ Q .non (upd H2 a (.dK (mergeK kvs more)))
theorem mergeK_le : ∀ more kvs : List (Key × V), (mergeK kvs more).length ≤ kvs.length + more.length
  | [], kvs => Nat.le_refl _
  | q :: r, kvs => by
    have h1 := mergeK_le r (putK kvs q.1 q.2)
    have h2 : (putK kvs q.1 q.2).length ≤ kvs.length + 1 := by
      unfold putK
      split
      · rw [List.length_map]; omega
      · rw [List.length_append]; exact Nat.le_refl _
    show (mergeK (putK kvs q.1 q.2) r).length ≤ kvs.length + (r.length + 1)
    omega
section
variable {X : Cx} {o e : Expr} {td ty : TE} {apos cpos : Pos}
theorem pe_dupdate (ho : PE X o td) (he : PE X e ty) (m : M1 X o "update" apos e cpos) : PE X (.Call (.Attribute o "update" apos) [e] [] cpos) (tDUpd td ty) := by
  refine ⟨fun pins s σ H Q I h => ?_⟩
  refine wpAny_Call_method m.base m.few m.line PySem.F.plainAttrs_dict PySem.F.slot_dict_update PySem.F.type_dict_update (thn (ho.run pins s σ H _ I h) fun u s1 ⟨x, H1, I1, rx, a, ex, d, q1⟩ => ?_)
  subst ex
  obtain rfl : u = Value.ref a := rx
  obtain ⟨t1, t2, _⟩ := isD_at I1 d
  refine ⟨t1, t2, ?_⟩
  rw [m.trees]
  refine Calls.callWith_builtin rfl (Calls.evalArgs_plain (Calls.spliced_cons (thn (he.run pins s1 σ H1 _ I1 q1) fun iv s2 ⟨y, H2, I2, ry, b, kvs, more, ey, ea, eb, hne, hsz, q2⟩ => Calls.spliced_nil ?_)))
  subst ey
  obtain rfl : iv = Value.ref b := ry
  obtain ⟨z, hd, vs, rel, dd⟩ := dk_of I2.hok ea
  obtain ⟨z2, hd2, vs2, rel2, dd2⟩ := dk_rd I2.hok eb
  refine call_meetsIn PySem.F.slot_dict_update dd.typeIs PySem.F.entry_dict_update (PySem.F.args_dict_update_2 _ _) (meets_dict_update (mixKind X.prog X.w) a b hne hd2)
    ⟨vs, vs2, dd, dd2, by rw [← rel.length, ← rel2.length]; exact hsz, fun h' dd' _ hs => ⟨.non, _, ?_, rfl, q2⟩⟩
  have hq : ∃ q, h'.get? a = some q := let ⟨q, _, _, hq, _⟩ := dd'; ⟨q, hq⟩
  exact d_write (t' := s2.toks) I2 (by rw [ea]; exact True.intro) hs hq (dk_new (Nat.le_trans (mergeK_le more kvs) hsz) hd (KV.merge rel2 rel) dd')
end
section
variable {X : Cx}
theorem ps_setDc {i : Nat} {y : Str} {py : Pos} {kx vx tg iter : Expr} {ifs : List Expr} {scope : Scope} {own : List (Str × Nat)} {pos spos : Pos} {wi : TI} {g : TG} {tt : TT} {tk tv : TE} (hc : X.calm = true) (hN : X.N.Nodup) (hy : X.N[i]? = some y) (hyl : X.env.scope.names.lookup y = some .local)
    (hsw : swapsWith (.DictComp kx vx [⟨tg, iter, ifs, 0⟩] scope pos) (some (.Name y py)) spos.line X.env = pure true) (hi : PI X tg iter wi) (ok : BlkOk X.N X.env.scope scope own)
    (hg : ∀ (s : Shared) (H : Hp) (C : Addr) (cl : List (Str × Addr)) (fp : List Addr), PG (X.blk s H scope (compEnvC scope cl C X.env) fp) tg g) (ht : ∀ (s : Shared) (H : Hp) (C : Addr) (cl : List (Str × Addr)) (fp : List Addr), PTs (X.blk s H scope (compEnvC scope cl C X.env) fp) ifs tt)
    (hk : ∀ (s : Shared) (H : Hp) (C : Addr) (cl : List (Str × Addr)) (fp : List Addr), PE (X.blk s H scope (compEnvC scope cl C X.env) fp) kx tk)
    (he : ∀ (s : Shared) (H : Hp) (C : Addr) (cl : List (Str × Addr)) (fp : List Addr), PE (X.blk s H scope (compEnvC scope cl C X.env) fp) vx tv) (hs : ∀ x, foldedSetIterable iter X.env x = pure x := by intro _; rfl) :
    PS X (.Assign [.Name y py] (.DictComp kx vx [⟨tg, iter, ifs, 0⟩] scope pos) spos) (tAsg (tDc wi g tt tk tv (own.map (·.2))) (gName i)) := by
  refine ⟨fun pins s σ H D I h => ?_⟩
  rw [exec_Assign_Name_used _ _ _ _ hsw]
  refine wpAny_bind (wpAny_standAt (wpAny_bind ?_))
  show wpAny _ X.A (do let _ ← comprehension (.DictComp kx vx [⟨tg, iter, ifs, 0⟩] scope pos) scope X.env (firstIterPos [⟨tg, iter, ifs, 0⟩] pos) newDict false (eval iter X.env) (some (assign (.Name y py) X.env))) _ _ s
  have h : tDc wi g tt tk tv (own.map (·.2)) σ H (fun x H1 => gName i x σ H1 D.nx) := h
  refine wpAny_bind (thn (dc_core (Qf := fun _ s' => SP X pins D .next s') hc hN I hi ok hg ht hk he hs h fun L C s' m H' I' q hn f => ?_) fun _ s' hq => wpAny_pure (wpAny_pure hq))
  show wpAny _ _ (assign (.Name y py) X.env (.ref L)) _ _ _
  refine wpAny_assign_Name (store_ok2 (v := V.ref L) I' hN hy (.inl hyl) rfl (fun s2 I2 ⟨a, sb, ha⟩ => ?_) (.inr hyl))
  obtain ⟨f0, f1, f2, f3, f4, f5⟩ := f
  have haC : C ≠ a := by
    rcases ha with z | z
    · rw [z]; exact f1
    · exact fun e => f4 y a z e.symm
  refine ⟨m, hn.sameBut sb haC, fun h3 sb3 => ?_⟩
  exact ⟨_, H', I2.turned (t' := s2.toks) (fun b o hb e => (sb3.2 b hb).trans e) f0 f1 f3 f4 f5, q⟩
theorem swd_true {kx vx : Expr} {gs : List Comprehension} {scope : Scope} {pos py : Pos} {y : Str} {l : Nat} {env : Env} (hk : env.scope.kind = .function) (hy : env.scope.names.lookup y = some .local) (hl : (py.line == pos.line) = true)
    (ha : (scope.names.any fun (n, k) => n == y && (k == .local || k == .cell)) = false) : swapsWith (.DictComp kx vx gs scope pos) (some (.Name y py)) l env = pure true := by
  have ky : env.kindOf y = some .local := hy
  have hb : env.blockKind = .function := by unfold Env.blockKind; rw [hk]; rfl
  unfold swapsWith
  simp only [hb, ky, ha, Expr.pos, hl]
  rfl
end
end Gx
end Text_Gr
section Text_S1
set_option Elab.async false
set_option linter.all false
set_option maxRecDepth 100000
set_option maxHeartbeats 4000000
/-! The thirteenth law's defs, by the hand layer. -/
namespace Sg
open PySem PySem.Spec PyProof.Rows L2 Gx GxR
def top (i : Nat) : Stmt := PySem.Challenge.pw_repostack_k08_files_that_are_staged.main.body.getD i (.Pass ⟨0, 0, 0, 0⟩)
def noS : Stmt := .Pass ⟨0, 0, 0, 0⟩
abbrev sPath : Stmt := top 6
abbrev sFiles : Stmt := top 7
abbrev sChanges : Stmt := top 8
abbrev sFits : Stmt := top 9
abbrev sLeft : Stmt := top 10
abbrev sInit : Stmt := inClass (top 12) 0
abbrev sLeave : Stmt := inClass (top 12) 1
abbrev sWrite : Stmt := inClass (top 12) 2
abbrev sErase : Stmt := inClass (top 12) 3
abbrev sAdd : Stmt := inClass (top 12) 4
abbrev sAll : Stmt := inClass (top 12) 5
abbrev sReset : Stmt := inClass (top 12) 6
abbrev sRestore : Stmt := inClass (top 12) 7
abbrev sStatus : Stmt := inClass (top 12) 8
abbrev sClean : Stmt := inClass (top 12) 9
abbrev sKeep : Stmt := inClass (top 12) 10
abbrev sMoveTo : Stmt := inClass (top 12) 11
abbrev sMove : Stmt := inClass (top 12) 12
abbrev sWay : Stmt := top 13
abbrev sDice : Stmt := top 15
abbrev sRoll : Stmt := top 16
abbrev sRounds : Stmt := top 17
abbrev sTold : Stmt := top 18
abbrev sLWay : Stmt := top 19
abbrev sLess : Stmt := top 20
abbrev sMore : Stmt := top 21
abbrev sOut : Stmt := top 22
abbrev sLChg : Stmt := top 23
abbrev sDeed : Stmt := top 24
abbrev sPlain : Stmt := top 25
abbrev sLaw : Stmt := top 26

/-- a def whose code object stands at c -/
structure FunC (K : PySem.W.Frag) (x qual : Str) (st : Stmt) (f c : Addr) (fd : FuncData) : Prop where
  ex : ∃ (oc : Value) (od : Option Addr) (kV doc pm : Value) (an : Option Addr) (ct : Value) (osl : Array (Option Value)),
    fd = PySem.W.fnOf x qual (defArgs st) (defBody st) (defScope st) .none kV doc pm an (.ref c) ct ∧ K.lookup f = some ⟨oc, od, .func fd, osl⟩ ∧ PySem.W.codeIn K (.ref c) qual = true
  kp : PySem.W.keepIn K (.ref f) = true
section
variable {P : Program} {w : World} {K : PySem.W.Frag} {mg : Str → Option Value} {base : Heap}
theorem FunC.okX {x qual : Str} {st : Stmt} {f c : Addr} {fd : FuncData} {N ps : List Str} {k : Nat} {sp : Sp} (F : FunC K x qual st f c fd) (S : FnScope N ps (defScope st)) (len : ∀ vs H Q E, sp vs H Q E → vs.length = ps.length)
    (hbody : ∀ (A : Around) (outer : List Env) (s : Shared) (H : Hp) (vs : List V) (Q : VK) (E : XK), Room k (A.deeper (envOfC qual (defScope st) s.heap.objs.size f (.ref c))) → sp vs H Q E →
      ∃ t, PSs (cxOf (L2.CX P w) P w K mg base N qual (defScope st) f (.ref c) A outer s H E) (defBody st) t ∧ t { nx := fun _ H' => Q .non H', rt := Q } (start N vs) H) : FnOk P w K mg base (L2.CX P w) (k + 1) f fd ps sp := by
  obtain ⟨oc, od, kV, doc, pm, an, ct, osl, rfl, lk, hcd⟩ := F.ex
  exact fn_of lk hcd S len fun A outer s H vs Q E hr hsp => hbody A outer s H vs Q E hr hsp
theorem FunC.ok {x qual : Str} {st : Stmt} {f c : Addr} {fd : FuncData} {N ps : List Str} {k : Nat} {sp : Sp} (F : FunC K x qual st f c fd) (S : FnScope N ps (defScope st)) (len : ∀ vs H Q E, sp vs H Q E → vs.length = ps.length)
    (hbody : ∀ (A : Around) (outer : List Env) (s : Shared) (H : Hp) (vs : List V) (Q : VK) (E : XK), Room k (A.deeper (envOfC qual (defScope st) s.heap.objs.size f (.ref c))) → sp vs H Q E →
      ∃ t, PSs (cxOf CX0 P w K mg base N qual (defScope st) f (.ref c) A outer s H E).nox (defBody st) t ∧ t { nx := fun _ H' => Q .non H', rt := Q } (start N vs) H) : FnOk P w K mg base CX0 (k + 1) f fd ps sp := by
  obtain ⟨oc, od, kV, doc, pm, an, ct, osl, rfl, lk, hcd⟩ := F.ex
  refine fn_of lk hcd S len fun A outer s H vs Q E hr hsp => ?_
  obtain ⟨t, h, q⟩ := hbody A outer s H vs Q E hr hsp
  exact ⟨t, h.nox, q⟩
theorem FunC.fn {x qual : Str} {st : Stmt} {f c : Addr} {fd : FuncData} (F : FunC K x qual st f c fd) : Fun K x qual st f fd := by
  obtain ⟨oc, od, kV, doc, pm, an, ct, osl, e, lk, hcd⟩ := F.ex
  exact ⟨⟨oc, od, kV, doc, pm, an, _, ct, osl, e, lk, hcd⟩, F.kp⟩
end

/-- the tables of code objects that grow: of check_files, fits, left_out, leave_out, in_way, status; of check_path (its own hold tables too); of _law_plain, _law_deed -/
structure Tb where
  cf : Addr
  f : Addr
  lo : Addr
  le : Addr
  iw : Addr
  st : Addr
  w : Addr
  p : Addr
  m : Addr
abbrev lamP : Str := "_law_plain.<locals>.<lambda>"
abbrev lamM : Str := "_law_deed.<locals>.<lambda>"
/-- they stand -/
structure TOk (T : Tb) (H : Hp) : Prop where
  cf : TabG H T.cf
  f : TabG H T.f
  lo : TabG H T.lo
  le : TabG H T.le
  iw : TabG H T.iw
  st : TabG H T.st
  w : TabN H T.w [T.p, T.m]
  p : LamX.TabS H T.p lamP
  m : LamX.TabS H T.m lamM
  nw : T.w ∉ [T.cf, T.f, T.lo, T.le, T.iw, T.st, T.p, T.m]
  np : T.p ∉ [T.cf, T.f, T.lo, T.le, T.iw, T.st, T.w, T.m]
  nm : T.m ∉ [T.cf, T.f, T.lo, T.le, T.iw, T.st, T.w, T.p]
/-- all but tables stays, but for what stands in S; the tables stand -/
def GoE (T : Tb) (S : List Addr) (H H' : Hp) : Prop := (∀ b o, H b = some o → (∀ ps, o ≠ .tbl ps) → (b ∉ S ∨ ∃ xs, o = .tup xs) → H' b = some o) ∧ TOk T H'
abbrev Go (T : Tb) : Hp → Hp → Prop := GoE T []
theorem GoE.refl {T : Tb} {S : List Addr} {H : Hp} (t : TOk T H) : GoE T S H H := ⟨fun _ _ e _ _ => e, t⟩
theorem GoE.trans {T : Tb} {S : List Addr} {H H1 H2 : Hp} (a : GoE T S H H1) (b : GoE T S H1 H2) : GoE T S H H2 := ⟨fun c o e n m => b.1 c o (a.1 c o e n m) n m, b.2⟩
theorem GoE.mono {T : Tb} {S S' : List Addr} {H H1 : Hp} (a : GoE T S H H1) (h : ∀ b ∈ S, b ∈ S') : GoE T S' H H1 := ⟨fun c o e n m => a.1 c o e n (m.imp_left fun q z => q (h c z)), a.2⟩
theorem Go.any {T : Tb} {S : List Addr} {H H1 : Hp} (a : Go T H H1) : GoE T S H H1 := a.mono fun b hb => absurd hb (by simp)
theorem GoE.at {T : Tb} {S : List Addr} {H H' : Hp} {b : Addr} {o : HO} (g : GoE T S H H') (e : H b = some o) (m : b ∉ S := by simp) (n : ∀ ps, o ≠ .tbl ps := by intro _ z; cases z) : H' b = some o := g.1 b o e n (.inl m)
/-- tuples never change -/
def ExtT (H H' : Hp) : Prop := ∀ b xs, H b = some (.tup xs) → H' b = some (.tup xs)
theorem GoE.t {T : Tb} {S : List Addr} {H H' : Hp} (g : GoE T S H H') : ExtT H H' := fun b xs e => g.1 b _ e (by intro _ z; cases z) (.inr ⟨xs, rfl⟩)
theorem TabG.not {H : Hp} {P b : Addr} {o : HO} (t : TabG H P) (e : H b = some o) (n : ∀ ps, o ≠ .tbl ps) : b ≠ P := fun z => by
  obtain ⟨ps, h, _⟩ := t
  rw [z, h] at e
  exact n ps (Option.some.inj e).symm
theorem tabG_of {H H' : Hp} {P : Addr} (t : TabG H P) (e : H' P = H P) : TabG H' P := by
  obtain ⟨ps, h, k⟩ := t
  exact ⟨ps, e.trans h, k⟩
theorem tabS_of {H H' : Hp} {P : Addr} {q : Str} (t : LamX.TabS H P q) (e : H' P = H P) (k : ∀ c, H c = some (LamX.CodeO c q) → H' c = some (LamX.CodeO c q)) : LamX.TabS H' P q := by
  obtain ⟨ps, h, ht, ha⟩ := t
  refine ⟨ps, e.trans h, ht, fun pos cv hc => ?_⟩
  obtain ⟨c, e1, e2⟩ := ha pos cv hc
  exact ⟨c, e1, k c e2⟩
theorem TOk.ext {T : Tb} {H H' : Hp} (t : TOk T H) (e : ∀ b o, H b = some o → H' b = some o) : TOk T H' := by
  have g : ∀ P, TabG H P → TabG H' P := fun P ⟨ps, a, b⟩ => ⟨ps, e _ _ a, b⟩
  exact ⟨g _ t.cf, g _ t.f, g _ t.lo, g _ t.le, g _ t.iw, g _ t.st, t.w.ext e, t.p.ext e, t.m.ext e, t.nw, t.np, t.nm⟩
/-- a table other than w's, p's, m's grows -/
theorem tabbed_tok {T : Tb} {H H' : Hp} {P : Addr} (t : TOk T H) (nw : P ≠ T.w) (np : P ≠ T.p) (nm : P ≠ T.m) (hP : TabG H P) (tb : Tabbed P H H') : TOk T H' := by
  obtain ⟨g, k⟩ := id tb
  have one : ∀ a, TabG H a → TabG H' a := fun a ta => by
    by_cases e : a = P
    · rw [e]; exact g
    · exact tabG_of ta (k a e)
  exact ⟨one _ t.cf, one _ t.f, one _ t.lo, one _ t.le, one _ t.iw, one _ t.st, t.w.other nw tb hP, tabS_of t.p (k _ np.symm) fun c e => by rw [k c (TabG.not hP e LamX.codeO_ne)]; exact e,
    tabS_of t.m (k _ nm.symm) fun c e => by rw [k c (TabG.not hP e LamX.codeO_ne)]; exact e, t.nw, t.np, t.nm⟩
theorem tabbed_go {T : Tb} {S : List Addr} {H H' : Hp} {P : Addr} (t : TOk T H) (nw : P ≠ T.w) (np : P ≠ T.p) (nm : P ≠ T.m) (hP : TabG H P) (tb : Tabbed P H H') : GoE T S H H' :=
  ⟨fun b o e n _ => by rw [tb.2 b (TabG.not hP e n)]; exact e, tabbed_tok t nw np nm hP tb⟩
theorem TOk.cfx {T : Tb} {S : List Addr} {H H' : Hp} (t : TOk T H) (tb : Tabbed T.cf H H') : GoE T S H H' := tabbed_go t (fun e => t.nw (by simp [e])) (fun e => t.np (by simp [e])) (fun e => t.nm (by simp [e])) t.cf tb
theorem TOk.fx {T : Tb} {S : List Addr} {H H' : Hp} (t : TOk T H) (tb : Tabbed T.f H H') : GoE T S H H' := tabbed_go t (fun e => t.nw (by simp [e])) (fun e => t.np (by simp [e])) (fun e => t.nm (by simp [e])) t.f tb
theorem TOk.lox {T : Tb} {S : List Addr} {H H' : Hp} (t : TOk T H) (tb : Tabbed T.lo H H') : GoE T S H H' := tabbed_go t (fun e => t.nw (by simp [e])) (fun e => t.np (by simp [e])) (fun e => t.nm (by simp [e])) t.lo tb
theorem TOk.lex {T : Tb} {S : List Addr} {H H' : Hp} (t : TOk T H) (tb : Tabbed T.le H H') : GoE T S H H' := tabbed_go t (fun e => t.nw (by simp [e])) (fun e => t.np (by simp [e])) (fun e => t.nm (by simp [e])) t.le tb
theorem TOk.iwx {T : Tb} {S : List Addr} {H H' : Hp} (t : TOk T H) (tb : Tabbed T.iw H H') : GoE T S H H' := tabbed_go t (fun e => t.nw (by simp [e])) (fun e => t.np (by simp [e])) (fun e => t.nm (by simp [e])) t.iw tb
theorem TOk.stx {T : Tb} {S : List Addr} {H H' : Hp} (t : TOk T H) (tb : Tabbed T.st H H') : GoE T S H H' := tabbed_go t (fun e => t.nw (by simp [e])) (fun e => t.np (by simp [e])) (fun e => t.nm (by simp [e])) t.st tb
/-- a new thing is laid -/
theorem go_upd {T : Tb} {S : List Addr} {H : Hp} {p : Addr} {o : HO} (t : TOk T H) (hp : H p = none) : GoE T S H (upd H p o) :=
  have q : ∀ b u, H b = some u → upd H p o b = some u := fun b u e => by rw [upd_ne (ne_of_none e hp)]; exact e
  ⟨fun b u e _ _ => q b u e, t.ext q⟩
/-- a thing in S is written -/
theorem go_set {T : Tb} {S : List Addr} {H : Hp} {p : Addr} {u o : HO} (t : TOk T H) (hp : H p = some u) (hu : (∀ ps, u ≠ .tbl ps) ∧ (∀ φ, u ≠ .ext φ) ∧ ∀ xs, u ≠ .tup xs) (hS : p ∈ S) : GoE T S H (upd H p o) := by
  have nT : ∀ P, TabG H P → P ≠ p := fun P tP e => TabG.not tP hp hu.1 e.symm
  have one : ∀ P, TabG H P → TabG (upd H p o) P := fun P tP => tabG_of tP (upd_ne (nT P tP))
  have nE : ∀ b φ, H b = some (.ext φ) → upd H p o b = some (.ext φ) := fun b φ e => by
    rw [upd_ne]
    · exact e
    · intro z
      rw [z, hp] at e
      exact hu.2.1 φ (Option.some.inj e)
  have oneS : ∀ P q, LamX.TabS H P q → LamX.TabS (upd H p o) P q := fun P q tP => tabS_of tP (upd_ne (nT P (let ⟨ps, a, b, _⟩ := tP; ⟨ps, a, b⟩))) fun c e => nE c _ e
  refine ⟨fun b v e _ hb => by
    rw [upd_ne (show b ≠ p from fun z => ?_)]
    · exact e
    · rcases hb with hb | ⟨xs, hb⟩
      · exact hb (by rw [z]; exact hS)
      · rw [z, hp] at e
        exact hu.2.2 xs ((Option.some.inj e).trans hb), one _ t.cf, one _ t.f, one _ t.lo, one _ t.le, one _ t.iw, one _ t.st, ?_, oneS _ _ t.p, oneS _ _ t.m, t.nw, t.np, t.nm⟩
  obtain ⟨ps, h1, h2, h3⟩ := id t.w
  refine ⟨ps, by rw [upd_ne (nT _ t.w.tab)]; exact h1, h2, fun pos cv hc => ?_⟩
  obtain ⟨c0, P0, e1, e2, e3, e4⟩ := h3 pos cv hc
  exact ⟨c0, P0, e1, nE _ _ e2, one _ e3, e4⟩
theorem GoE.seq {T : Tb} {S : List Addr} {K : PySem.W.Frag} {H H' : Hp} {a : Addr} {xs : List V} (g : GoE T S H H') (h : SqL K H a xs) (m : a ∉ S := by simp) : SqL K H' a xs := by
  rcases h with h | h
  · rcases h with h | ⟨o, h⟩
    · exact .inl (.inl (g.at h m))
    · exact .inl (.inr ⟨o, g.at h m⟩)
  · exact .inr h
end Sg
end Text_S1
section Text_S2
set_option Elab.async false
set_option linter.all false
set_option maxRecDepth 100000
set_option maxHeartbeats 4000000
namespace L2
theorem pss_dead {X : Cx} {st : List PySem.Stmt} : PSs X st (fun _ _ _ => False) := ⟨fun _ _ _ _ _ _ h => h.elim⟩
end L2
namespace Sg
open PySem PySem.Spec PyProof.Rows L2 Gx GxR
/-- names of built-ins that the top leaves alone -/
structure Tx (K : PySem.W.Frag) (mg : Str → Option Value) : Prop where
  any : mg "any" = none
  all : mg "all" = none
  len : mg "len" = none
  sorted : mg "sorted" = none
  range : mg "range" = none
  abs : mg "abs" = none
  int : mg "int" = none
  dict : mg "dict" = none
  list : mg "list" = none
  tuple : mg "tuple" = none
  min : mg "min" = none
  str : mg "str" = none
  end_ : ∃ t, mg "END" = some (.str "\n" t)
/-- an error's class at C, StoreError at CS -/
structure Er1 (K : PySem.W.Frag) (mg : Str → Option Value) (x : Str) (C CS : Addr) : Prop where
  g : mg x = some (.ref C)
  x : PySem.W.excIn K C [.type "ValueError", .type "Exception", .type "BaseException", .type "object"] "ValueError.__new__" = true
  k : PySem.W.keepIn K (.ref C) = true
  b : PySem.W.subIn K (.ref C) (.type "BaseException") = some true
  t : PySem.W.typeIn K (.ref C) = some (.type "type")
  s : PySem.W.subIn K (.ref C) (.ref CS) = some true
/-- the errors: PathError at CP, StageError at CG, StoreError at CS -/
structure Er (K : PySem.W.Frag) (mg : Str → Option Value) (CP CG CS : Addr) : Prop where
  P : Er1 K mg "PathError" CP CS
  G : Er1 K mg "StageError" CG CS
  gS : mg "StoreError" = some (.ref CS)
  bS : PySem.W.subIn K (.ref CS) (.type "BaseException") = some true
  tS : PySem.W.typeIn K (.ref CS) = some (.type "type")
  iS : PySem.W.isClsIn K CS = true
theorem Er.caughtE {K : PySem.W.Frag} {mg : Str → Option Value} {CP CG CS C : Addr} {x : Str} (e : Er K mg CP CG CS) (r : Er1 K mg x C CS) : PySem.W.exmOne K (.ref C) (.ref CS) = some true := by
  have hc : (PySem.W.clsIn K CS).isSome = true := by
    have := e.iS
    unfold PySem.W.isClsIn at this
    exact this
  simp [PySem.W.exmOne, PySem.W.kitCls, e.bS, hc, e.tS, r.s, r.b, r.t]
/-- any dice at l -/
def DiceV (xs : List V) : Prop := ∃ a b c : Int, xs = [.int a, .int b, .int c]
def DiceAt (H : Hp) (l : Addr) : Prop := ∃ xs, H l = some (.lst xs) ∧ DiceV xs
def spDice : Sp := fun vs H Q _ => ∃ n : Int, vs = [.int n] ∧ ∀ l a b c, H l = none → Q (.ref l) (upd H l (.lst [.int a, .int b, .int c]))
section
variable {P : Program} {w : World} {K : PySem.W.Frag} {mg : Str → Option Value} {base : Heap} {T : Tb}
theorem scDi : FnScope ["cell"] ["cell"] (defScope sDice) := ⟨rfl, rfl, rfl, by decide +kernel, rfl, by decide +kernel, by decide +kernel⟩
theorem ok_dice {f : Addr} {fd : FuncData} (F : Fun K "_law_dice" "_law_dice" sDice f fd) (X : Tx K mg) : FnOk P w K mg base CX0 1 f fd ["cell"] spDice := by
  refine F.ok scDi (fun vs H Q E h => ?_) (fun cdv A outer s H vs Q E hr h => ?_)
  · obtain ⟨n, rfl, _⟩ := h
    rfl
  · obtain ⟨n, rfl, k1⟩ := h
    refine ⟨_, pss_cons (ps_if (pt_chain op_lt op_lt (pe_op op_sub pe_int pe_int) (pv 0) pe_int) (pss_one (ps_ret (pe_lst (pa_cons (pe_callB call_abs (by rfl) X.abs (by decide +kernel) (pa_cons (pv 0) pa_nil)) (pa_cons pe_int (pa_cons pe_int pa_nil)))))) pss_nil)
      (pss_one (ps_ret (pe_lst (pa_cons (pv 0) (pa_cons (pe_op op_add pe_int (pe_op op_mod (pe_callTy call_int1 (by rfl) X.int (by decide +kernel) (pa_cons (pv 0) pa_nil)) pe_int)) (pa_cons (pe_callTy call_int1 (by rfl) X.int (by decide +kernel) (pa_cons (pe_cmpR op_ge (pv 0) (pe_op op_pow pe_int pe_int) (by rfl)) pa_nil)) pa_nil)))))), ?_⟩
    refine ⟨_, _, rfl, rfl, _, rfl, _, _, rfl, rfl, _, rfl, ?_⟩
    have lst3 : ∀ H' : Hp, H' = H → ∀ a b c : Int, ([V.int a, .int b, .int c] : List V).length ≤ sizeLine ∧ ∀ p, H' p = none → Q (.ref p) (upd H' p (.lst [.int a, .int b, .int c])) := fun H' e a b c => ⟨by show 3 ≤ sizeLine; decide, fun p hp => by rw [e] at hp ⊢; exact k1 p a b c hp⟩
    refine ite2 (fun _ => ⟨_, _, rfl, rfl, _, rfl, ite2 (fun _ => ⟨_, rfl, _, rfl, lst3 H rfl _ 0 2⟩) (fun _ => ?_)⟩) (fun _ => ⟨_, rfl, ?_⟩)
    all_goals exact ⟨_, rfl, _, rfl, .inl ⟨_, rfl, _, _, rfl, rfl, (by show (0 : Int) < 1009; decide), _, _, rfl, rfl, _, rfl, _, _, rfl, rfl, ⟨by decide, by decide, by decide⟩, _, _, rfl, rfl, .inr ⟨_, rfl, lst3 H rfl _ _ _⟩⟩⟩
end
def spRoll : Sp := fun vs H Q _ => ∃ (l : Addr) (m : Int), vs = [.ref l, .int m] ∧ 0 < m ∧ m ≤ 100000000 ∧ DiceAt H l ∧ ∀ (r : Int) xs, 0 ≤ r → r < m → DiceV xs → Q (.int r) (upd H l (.lst xs))
section
variable {P : Program} {w : World} {K : PySem.W.Frag} {mg : Str → Option Value} {base : Heap} {T : Tb}
theorem orR {c : Bool} {A B : Prop} (h1 : c = true → A) (h2 : c = false → B) : if c = true then A else B := by
  cases c with
  | true => exact h1 rfl
  | false => exact h2 rfl
theorem iteF' {c A B : Prop} [Decidable c] (h : ¬ c) (b : B) : if c then A else B := by rw [if_neg h]; exact b
theorem scRo : FnScope ["dice", "many", "found"] ["dice", "many"] (defScope sRoll) := ⟨rfl, rfl, rfl, by decide +kernel, rfl, by decide +kernel, by decide +kernel⟩
theorem ok_roll {f : Addr} {fd : FuncData} (F : Fun K "_law_roll" "_law_roll" sRoll f fd) (X : Tx K mg) : FnOk P w K mg base CX0 1 f fd ["dice", "many"] spRoll := by
  refine F.ok scRo (fun vs H Q E h => ?_) (fun cdv A outer s H vs Q E hr h => ?_)
  · obtain ⟨l, m, rfl, _⟩ := h
    rfl
  · obtain ⟨l, m, rfl, hm, hm2, ⟨xs, hl, a, b, c, rfl⟩, k1⟩ := h
    refine ⟨_, pss_cons (ps_if (PW.pt (pw_or (pt_cmpR op_eq (pe_ix ix_list (pv 0) pe_int (fun _ _ => rfl)) pe_int (nomark _)) (pw_or1 (PW.pt (pw_and (pt_cmpR op_eq (pe_ix ix_list (pv 0) pe_int (fun _ _ => rfl)) pe_int (nomark _)) (pw_and1 (pt_cmpR op_gt (pe_ix ix_list (pv 0) pe_int (fun _ _ => rfl)) pe_int (nomark _))))))))
        (pss_cons (ps_set (i := 2) scRo.nd rfl (Or.inl rfl) (pe_op op_mod (pe_callTy call_int1 (by rfl) X.int (by decide +kernel) (pa_cons (pe_ix ix_list (pv 0) pe_int (fun _ _ => rfl)) pa_nil)) (pv 1)))
        (pss_cons (ps_asg (pe_op op_fdiv (pe_ix ix_list (pv 0) pe_int (fun _ _ => rfl)) (pv 1)) (pg_sub (pv 0) pe_int set_list)) (pss_one (ps_ret (pv 2))))) pss_nil)
      (pss_cons (ps_asg pe_int (pg_sub (pv 0) pe_int set_list))
      (pss_cons (ps_if (pt_cmpR op_gt (pv 1) pe_int (nomark _)) pss_dead pss_nil)
      (pss_cons (ps_asg (pe_op op_mod (pe_callTy call_int1 (by rfl) X.int (by decide +kernel) (pa_cons (pe_op op_add (pe_op op_add (pe_op op_mul (pe_ix ix_list (pv 0) pe_int (fun _ _ => rfl)) pe_int) (pe_op op_mul (pe_ix ix_list (pv 0) pe_int (fun _ _ => rfl)) pe_int)) pe_int) pa_nil)) pe_int) (pg_sub (pv 0) pe_int set_list))
      (pss_cons (ps_asg (pe_op op_add (pe_ix ix_list (pv 0) pe_int (fun _ _ => rfl)) pe_int) (pg_sub (pv 0) pe_int set_list))
      (pss_one (ps_ret (pe_op op_mod (pe_callTy call_int1 (by rfl) X.int (by decide +kernel) (pa_cons (pe_op op_fdiv (pe_ix ix_list (pv 0) pe_int (fun _ _ => rfl)) pe_int) pa_nil)) (pv 1)))))))), ?_⟩
    have cd : CDiv a m := ⟨hm, by omega⟩
    have m0 : (0 : Int) < 1 := by decide
    refine ⟨_, rfl, _, _, _, _, rfl, rfl, SqL.of hl, rfl, rfl, _, rfl, ?_⟩
    have later := k1
    refine orR (fun _ => ?fst) (fun _ => ⟨_, rfl, _, _, _, _, rfl, rfl, SqL.of hl, rfl, rfl, _, rfl, ite2 (fun _ => ⟨_, rfl, _, _, _, _, rfl, rfl, SqL.of hl, rfl, _, _, rfl, rfl, _, rfl, ite2 (fun _ => ?fst2) (fun _ => ?lst2)⟩) (fun _ => ?lst)⟩)
    case fst => exact ⟨_, rfl, _, _, _, _, rfl, rfl, SqL.of hl, rfl, .inl ⟨_, rfl, _, rfl, _, _, rfl, rfl, hm, _, rfl, _, _, _, _, rfl, rfl, SqL.of hl, rfl, _, rfl, _, _, rfl, rfl, cd, _, rfl, _, _, _, _, rfl, rfl, hl, rfl, _, rfl, k1 _ _ (Int.emod_nonneg _ (by omega)) (Int.emod_lt_of_pos _ hm) ⟨_, _, _, rfl⟩⟩⟩
    case fst2 => exact ⟨_, rfl, _, _, _, _, rfl, rfl, SqL.of hl, rfl, .inl ⟨_, rfl, _, rfl, _, _, rfl, rfl, hm, _, rfl, _, _, _, _, rfl, rfl, SqL.of hl, rfl, _, rfl, _, _, rfl, rfl, cd, _, rfl, _, _, _, _, rfl, rfl, hl, rfl, _, rfl, k1 _ _ (Int.emod_nonneg _ (by omega)) (Int.emod_lt_of_pos _ hm) ⟨_, _, _, rfl⟩⟩⟩
    all_goals refine ⟨_, rfl, _, _, _, _, rfl, rfl, hl, rfl, ?_⟩
    all_goals have m2 : ¬ (decide ((100000000 : Int) < m) = true) := by simp; omega
    all_goals have pos : (0 : Int) < 2147483647 := by decide
    all_goals refine ⟨_, rfl, _, _, rfl, rfl, _, rfl, iteF' m2 ?_⟩
    all_goals refine ⟨_, rfl, _, _, _, _, rfl, rfl, SqL.of upd_same, rfl, _, _, rfl, rfl, .inr ⟨by decide, by decide⟩, _, rfl, _, _, _, _, rfl, rfl, SqL.of upd_same, rfl, _, _, rfl, rfl, .inr ⟨by decide, by decide⟩, _, _, rfl, rfl, _, _, rfl, rfl, .inl ⟨_, rfl, _, _, rfl, rfl, pos, _, rfl, _, _, _, _, rfl, rfl, upd_same, rfl, ?_⟩⟩
    all_goals refine ⟨_, rfl, _, _, _, _, rfl, rfl, SqL.of upd_same, rfl, _, _, rfl, rfl, _, rfl, _, _, _, _, rfl, rfl, upd_same, rfl, ?_⟩
    all_goals refine ⟨_, rfl, _, _, _, _, rfl, rfl, SqL.of upd_same, rfl, _, _, rfl, rfl, ⟨by decide, by decide⟩, .inl ⟨_, rfl, _, rfl, _, _, rfl, rfl, hm, ?_⟩⟩
    all_goals rw [upd_upd, upd_upd]
    all_goals exact k1 _ _ (Int.emod_nonneg _ (by omega)) (Int.emod_lt_of_pos _ hm) ⟨_, _, _, rfl⟩
end
/-- what is read of the script -/
def intsV (xs : List V) : Prop := ∀ x ∈ xs, ∃ n : Int, x = .int n
/-- nothing but a table may have stood there -/
def Fresh (H : Hp) (D : Addr) : Prop := ∀ u, H D = some u → ∃ ps, u = .tbl ps
theorem fresh_of {T : Tb} {H G : Hp} {D : Addr} (g : Go T H G) (hD : G D = none) : Fresh H D := fun u e => by
  refine Classical.byContradiction fun n => ?_
  have := g.1 D u e (fun ps z => n ⟨ps, z⟩) (by simp)
  rw [hD] at this
  cases this
theorem fresh_none {H : Hp} {D : Addr} (h : H D = none) : Fresh H D := fun u e => by rw [h] at e; cases e
/-- what is new may be written over -/
theorem go_put {T : Tb} {H G : Hp} {D : Addr} {o u : HO} (g : Go T H G) (fr : Fresh H D) (e : G D = some u) (n : ∀ ps, u ≠ .tbl ps := by intro _ z; cases z) (n2 : ∀ φ, u ≠ .ext φ := by intro _ z; cases z) (n3 : ∀ xs, u ≠ .tup xs := by intro _ z; cases z) : Go T H (upd G D o) := by
  have w := go_set (S := [D]) (o := o) g.2 e ⟨n, n2, n3⟩ (by simp)
  refine ⟨fun b v eb nb _ => ?_, w.2⟩
  have hb : b ≠ D := fun z => by
    rw [z] at eb
    obtain ⟨ps, q⟩ := fr v eb
    exact nb ps q
  rw [upd_ne hb]
  exact g.1 b v eb nb (by simp)
def spRounds (K : PySem.W.Frag) (T : Tb) : Sp := fun vs H Q _ => ∃ a xs, vs = [.ref a, .int 1] ∧ SqL K H a xs ∧ intsV xs ∧ TOk T H ∧ ∀ H' l d, Go T H H' → H' l = some (.lst [.ref d]) → DiceAt H' d → l ≠ d → Q (.ref l) H'
section
variable {P : Program} {w : World} {K : PySem.W.Frag} {mg : Str → Option Value} {base : Heap} {T : Tb}
theorem scRu : FnScope ["script", "most", "cells", "cell"] ["script", "most"] (defScope sRounds) := ⟨rfl, rfl, rfl, by decide +kernel, rfl, by decide +kernel, by decide +kernel⟩
theorem ok_rounds {f fD : Addr} {fd fdD : FuncData} (F : Fun K "_law_rounds" "_law_rounds" sRounds f fd) (X : Tx K mg) (GD : FnOk P w K mg base CX0 1 fD fdD ["cell"] spDice) (mD : mg "_law_dice" = some (.ref fD))
    (kD : PySem.W.keepIn K (.ref fD) = true) (bD : Binds K fdD ["cell"] []) : FnOk P w K mg base CX0 2 f fd ["script", "most"] (spRounds K T) := by
  refine F.ok scRu (fun vs H Q E h => ?_) (fun cdv A outer s H vs Q E hr h => ?_)
  · obtain ⟨a, xs, rfl, _⟩ := h
    rfl
  · obtain ⟨a, xs, rfl, hx, hi, tk, k1⟩ := h
    refine ⟨_, pss_cons (ps_set (i := 2) scRu.nd rfl (Or.inl rfl) (pe_slice sl_list (pv 0) po_none (po_some (pv 1))))
      (pss_cons (ps_if (pt_cmpR (op_eqD hr.units) (pv 2) (pe_lst pa_nil) (nomark _)) (pss_one (ps_set (i := 2) scRu.nd rfl (Or.inl rfl) (pe_lst (pa_cons pe_int pa_nil)))) pss_nil)
      (pss_one (ps_ret (pe_lc (own := [("cell", 3)]) (g := gName 3) (tt := tYes) rfl scRu.nd (pi_list (pv 2)) (blkOk_by (N := ["script", "most", "cells", "cell"]) (sc := defScope sRounds) (by decide +kernel)) (fun _ _ _ _ _ => pg_name (i := 3) scRu.nd rfl (Or.inl rfl)) (fun _ _ _ _ _ => pts_nil)
        (fun _ _ _ _ _ => pe_call GD hr rfl mD kD bD .nil pass0 (pa_cons (pv 3) pa_nil)))))), ?_⟩
    refine ⟨_, rfl, _, rfl, _, rfl, _, _, rfl, hx, fun p hp => ?_⟩
    have ecut : cutV xs none (some 1) = xs.take 1 := by
      unfold cutV HT.sIx
      simp
    have g1 : Go T H (upd H p (.lst (xs.take 1))) := go_upd tk hp
    show (_ : Prop)
    rw [ecut]
    refine ⟨_, rfl, by decide, fun q hq => ?_⟩
    have g2 := g1.trans (go_upd (o := .lst []) g1.2 hq)
    have hpq : q ≠ p := fun e => by rw [e, upd_same] at hq; cases hq
    have e1 : ∀ v, upd (upd H p (.lst (xs.take 1))) q v p = some (.lst (xs.take 1)) := fun v => by rw [upd_ne (Ne.symm hpq), upd_same]
    have last : ∀ (n : Int) (G : Hp) (c : Addr), Go T H G → G c = some (.lst [.int n]) → tLc (iList K (tVar 2)) (gName 3) tYes (tCall spDice [] E0 (tCons (tVar 3) tNil)) [3] [some (.ref a), some (.int 1), some (.ref c), none] G Q := fun n G c g e => by
      refine ⟨_, rfl, c, rfl, ⟨_, SqL.of e⟩, fun D hD => lc_list (xs := [.int n]) (fun i G' => Go T H G' ∧ G' c = some (.lst [.int n]) ∧ ∃ acc, G' D = some (.lst acc) ∧ (i = 0 ∧ acc = [] ∨ i = 1 ∧ ∃ d, acc = [.ref d] ∧ DiceAt G' d ∧ D ≠ d)) ?_ ?_ ?_ ?_⟩
      · exact ⟨g.trans (go_upd g.2 hD), by rw [upd_ne (ne_of_none e hD)]; exact e, [], upd_same, .inl ⟨rfl, rfl⟩⟩
      · intro i G' _ h
        exact SqL.of h.2.1
      · intro i x G' hix h
        obtain ⟨g', e', acc, ea, hh⟩ := h
        rcases hh with ⟨rfl, rfl⟩ | ⟨rfl, d, rfl, _, _⟩
        · cases hix
          refine ⟨rfl, _, rfl, n, rfl, fun l a' b' c' hl => ?_⟩
          have hlD : D ≠ l := fun z => by rw [← z, ea] at hl; cases hl
          have hlc : c ≠ l := fun z => by rw [← z, e'] at hl; cases hl
          have hcD : c ≠ D := fun z => by rw [z, hD] at e; cases e
          refine ⟨[], by rw [upd_ne hlD]; exact ea, by decide, ?_, ?_, ?_⟩
          · exact go_put (g'.trans (go_upd g'.2 hl)) (fresh_of g hD) (by rw [upd_ne hlD]; exact ea)
          · rw [upd_ne hcD, upd_ne hlc]
            exact e'
          · exact ⟨_, upd_same, .inr ⟨rfl, l, rfl, ⟨_, by rw [upd_ne (Ne.symm hlD)]; exact upd_same, _, _, _, rfl⟩, hlD⟩⟩
        · cases hix
      · intro G' h
        obtain ⟨g', e', acc, ea, hh⟩ := h
        rcases hh with ⟨h0, _⟩ | ⟨_, d, rfl, hd, hne⟩
        · cases h0
        · exact k1 _ _ _ g' ea hd hne
    cases xs with
    | nil =>
      refine ⟨_, _, .lst (SqL.of (e1 _)) .nil, .lst (SqL.of upd_same) .nil, by decide, by decide, _, rfl, ?_⟩
      refine iteT ⟨by decide, fun r hr' => ?_⟩
      exact last 0 _ r (g2.trans (go_upd g2.2 hr')) upd_same
    | cons x0 xr =>
      obtain ⟨n, rfl⟩ := hi x0 (List.mem_cons_self ..)
      refine ⟨_, _, .lst (SqL.of (e1 _)) (.cons (.int n) .nil), .lst (SqL.of upd_same) .nil, rfl, by decide, _, rfl, ?_⟩
      refine iteF ?_
      exact last n _ p g2 (e1 _)
end
end Sg
end Text_S2
section Text_S3
set_option Elab.async false
set_option linter.all false
set_option maxRecDepth 100000
set_option maxHeartbeats 4000000
namespace Sg
open PySem PySem.Spec PyProof.Rows L2 Gx GxR
/-! fits, in plain words -/
def starL (f : List Nat → Bool) : List Nat → Bool
  | [] => f []
  | d :: q => f (d :: q) || (!decide (d = 47) && starL f q)
def fitL : List Nat → List Nat → Bool
  | [], q => q.isEmpty
  | c :: p, q => match c, p with
    | 42, 42 :: p2 => (List.range (q.length + 1)).any fun k => fitL p2 (q.drop k)
    | 42, p => starL (fitL p) q
    | c, p => match q with
      | [] => false
      | d :: q2 => !(decide (c = 63) && decide (d = 47)) && (decide (c = 63) || decide (c = d)) && fitL p q2
def fitS (p q : Str) : Bool := fitL p.cps.toList q.cps.toList
theorem tl_len (z : Str) : z.cps.toList.length = z.length := by rw [Array.length_toList]; rfl
theorem cutd (z : Str) (k : Nat) : (cutS z (some (k : Int)) none).cps.toList = z.cps.toList.drop k := by
  unfold cutS
  rw [HT.sIx_nat, HT.sIx_none]
  show ((z.cps.toList.drop (min k z.length)).take (z.length - min k z.length)).toArray.toList = _
  have h : min k z.length = k ∨ z.length ≤ k := by omega
  rw [List.take_of_length_le (by rw [List.length_drop, tl_len]; exact Nat.le_refl _)]
  rcases h with h | h
  · rw [h]
  · rw [Nat.min_eq_right h, List.drop_of_length_le (by rw [tl_len]; exact Nat.le_refl _), List.drop_of_length_le (by rw [tl_len]; exact h)]
theorem cutI (z : Str) (i : Nat) : (cutS z (some (0 + (i : Int))) none).cps.toList = z.cps.toList.drop i := by
  rw [Int.zero_add]
  exact cutd z i
theorem cut1 (z : Str) : (cutS z (some 1) none).cps.toList = z.cps.toList.drop 1 := cutd z 1
theorem cut2 (z : Str) : (cutS z (some 2) none).cps.toList = z.cps.toList.drop 2 := cutd z 2
theorem fit_cut (p q : Str) (a b : Nat) : fitS (cutS p (some (a : Int)) none) (cutS q (some (b : Int)) none) = fitL (p.cps.toList.drop a) (q.cps.toList.drop b) := by
  unfold fitS
  rw [cutd, cutd]
theorem str_ext {x y : Str} (h : x.cps.toList = y.cps.toList) : x = y := by
  cases x
  cases y
  exact congrArg Str.mk (Array.toList_inj.mp h)
theorem str_nil (z : Str) : z = Str.ofString "" ↔ z.cps.toList = [] := ⟨fun h => by rw [h]; rfl, fun h => str_ext h⟩
theorem starts2 (z : Str) : Txt.startswith z "**" = true ↔ ∃ p, z.cps.toList = 42 :: 42 :: p := by
  unfold Txt.startswith
  rw [PySem.StrLaws.subAt_eq]
  have e2 : (Str.ofString "**").length = 2 := by decide
  have l2 : (Str.ofString "**").cps.toList = [42, 42] := by decide
  rw [e2, l2, List.drop_zero, ← tl_len]
  match z.cps.toList with
  | [] => simp
  | [a] => simp
  | a :: b :: r => simp
/-- a sign's text -/
theorem one_eq {c d : Nat} : V.str ⟨#[c]⟩ = V.str ⟨#[d]⟩ ↔ c = d := by
  constructor
  · intro h
    have := V.str.inj h
    simpa using this
  · rintro rfl
    rfl
theorem at0 {l : List Nat} {c : Nat} {r : List Nat} (h : l = c :: r) : atI l 0 = some c := by
  rw [h]
  exact atI_nat (j := 0) (xs := c :: r) rfl
theorem fit_ss (p q : List Nat) : fitL (42 :: 42 :: p) q = (List.range (q.length + 1)).any fun k => fitL p (q.drop k) := by rw [fitL]
theorem fit_s {p : List Nat} (h : ∀ r, p ≠ 42 :: r) (q : List Nat) : fitL (42 :: p) q = starL (fitL p) q := by
  rw [fitL]
  exact h
theorem fit_c0 {c : Nat} (h : c ≠ 42) (p : List Nat) : fitL (c :: p) [] = false := by
  rw [fitL]
  · exact fun z => absurd z h
  · exact fun p2 z _ => absurd z h
theorem fit_c {c : Nat} (h : c ≠ 42) (p : List Nat) (d : Nat) (q : List Nat) : fitL (c :: p) (d :: q) = (!(decide (c = 63) && decide (d = 47)) && (decide (c = 63) || decide (c = d)) && fitL p q) := by
  rw [fitL]
  · exact fun z => absurd z h
  · exact fun p2 z _ => absurd z h
/-! fits, walked -/
def spFits (T : Tb) (n : Nat) : Sp := fun vs H Q _ => ∃ p q, vs = [.str p, .str q] ∧ p.cps.toList.length ≤ n ∧ n ≤ 1000 ∧ q.cps.toList.length ≤ 1000 ∧ TOk T H ∧ ∀ H', Go T H H' → Q (.bl (fitS p q)) H'
abbrev NF : List Str := ["pattern", "path", "at"]
theorem scF : FnScope NF ["pattern", "path"] (defScope sFits) := ⟨rfl, rfl, rfl, by decide +kernel, rfl, by decide +kernel, by decide +kernel⟩
theorem line1 {z : Str} {n : Nat} (h : z.cps.toList.length ≤ n) (hn : n ≤ 1000) : z.length ≤ sizeLine := by
  rw [← tl_len, sizeLine_eq]
  omega
section
variable {P : Program} {w : World} {K : PySem.W.Frag} {mg : Str → Option Value} {base : Heap} {T : Tb}
theorem fits_step {f c : Addr} {fd : FuncData} {k n : Nat} {sp : Sp} (F : FunC K "fits" "fits" sFits f c fd) (X : Tx K mg) (bf : TabB base mg c T.f) (mF : mg "fits" = some (.ref f)) (bF : Binds K fd ["pattern", "path"] [])
    (G : FnOk P w K mg base CX0 k f fd ["pattern", "path"] sp) (hs : ∀ p q H Q E, p.cps.toList.length < n → n ≤ 1000 → q.cps.toList.length ≤ 1000 → TOk T H → (∀ H', Go T H H' → Q (.bl (fitS p q)) H') → sp [.str p, .str q] H Q E) :
    FnOk P w K mg base CX0 (k + 2) f fd ["pattern", "path"] (spFits T n) := by
  refine F.ok scF (fun vs H Q E h => ?_) (fun A outer s H vs Q E hr h => ?_)
  · obtain ⟨p, q, rfl, _⟩ := h
    rfl
  · obtain ⟨p, q, rfl, hp, hn, hq, tk, k1⟩ := h
    have hr1 : Room k (A.deeper (envOfC "fits" (defScope sFits) s.heap.objs.size f (.ref c))) := hr.mono (Nat.le_succ k)
    refine ⟨_, pss_cons (ps_if (pt_cmpR op_eq (pv 0) pe_str (nomark _)) (pss_one (ps_ret (pe_cmpR op_eq (pv 1) pe_str (nomark _)))) pss_nil)
      (pss_cons (ps_if (pt_val (pe_m1 PySem.F.slot_str_startswith PySem.F.type_str_startswith mt_startswith (pv 0) pe_str))
        (pss_one (ps_ret (pe_anyC (own := [("at", 2)]) (k := k) hr rfl X.any ⟨_, bf.bm⟩ (mkC_base bf rfl) scF.nd (gOkC_by (N := NF) (sc := defScope sFits) (by decide +kernel)) (pi_range1 rfl X.range (pa_cons (pe_op op_add (pe_callB call_len_str (by rfl) X.len PySem.boot_len (pa_cons (pv 1) pa_nil)) pe_int) pa_nil))
          ⟨fun _ _ _ _ _ _ _ _ => pg_name (i := 2) scF.nd rfl (Or.inl rfl), fun _ _ _ _ _ _ _ _ => pts_nil, fun _ _ _ _ _ _ _ hr' => pe_call G hr' rfl mF F.kp bF .nil pass0 (pa_cons (pe_slice sl_str (pv 0) (po_some pe_int) po_none) (pa_cons (pe_slice sl_str (pv 1) (po_some (pv 2)) po_none) pa_nil))⟩))) pss_nil)
      (pss_cons (ps_if (pt_cmpR op_eq (pe_ix ix_str (pv 0) pe_int (fun _ _ => rfl)) pe_str (nomark _))
        (pss_cons (ps_set (i := 2) scF.nd rfl (Or.inl rfl) pe_int)
        (pss_one (ps_while PassesOwn.never (pt_val pe_bl)
          (pss_cons (ps_if (pt_val (pe_call G hr1 rfl mF F.kp bF .nil pass0 (pa_cons (pe_slice sl_str (pv 0) (po_some pe_int) po_none) (pa_cons (pe_slice sl_str (pv 1) (po_some (pv 2)) po_none) pa_nil)))) (pss_one (ps_ret pe_bl)) pss_nil)
          (pss_cons (ps_if (PW.pt (pw_or (pt_cmpR op_eq (pv 2) (pe_callB call_len_str (by rfl) X.len PySem.boot_len (pa_cons (pv 1) pa_nil)) (nomark _)) (pw_or1 (pt_cmpR op_eq (pe_ix ix_str (pv 1) (pv 2) (fun _ _ => rfl)) pe_str (nomark _))))) (pss_one (ps_ret pe_bl)) pss_nil)
          (pss_one (ps_aug (i := 2) scF.nd rfl (Or.inl rfl) pe_int ip_add))))))) pss_nil)
      (pss_cons (ps_if (PW.pt (pw_or (pt_cmpR op_eq (pv 1) pe_str (nomark _)) (pw_or (PW.pt (pw_and (pt_cmpR op_eq (pe_ix ix_str (pv 0) pe_int (fun _ _ => rfl)) pe_str (nomark _)) (pw_and1 (pt_cmpR op_eq (pe_ix ix_str (pv 1) pe_int (fun _ _ => rfl)) pe_str (nomark _)))))
          (pw_or1 (pt_cmpR op_notIn_seq (pe_ix ix_str (pv 0) pe_int (fun _ _ => rfl)) (pe_tup (pa_cons pe_str (pa_cons (pe_ix ix_str (pv 1) pe_int (fun _ _ => rfl)) pa_nil))) (by rfl)))))) (pss_one (ps_ret pe_bl)) pss_nil)
      (pss_one (ps_ret (pe_call G hr1 rfl mF F.kp bF .nil pass0 (pa_cons (pe_slice sl_str (pv 0) (po_some pe_int) po_none) (pa_cons (pe_slice sl_str (pv 1) (po_some pe_int) po_none) pa_nil)))))))), ?_⟩
    have hpl := line1 hp hn
    have hql := line1 hq (Nat.le_refl _)
    have big : ((q.cps.toList.length : Int) + 1).toNat = q.cps.toList.length + 1 := by omega
    refine ⟨_, rfl, rfl, _, rfl, ite2 (fun e => ?_) (fun e => ?_)⟩
    · -- an empty pattern
      have e1 : p.cps.toList = [] := (str_nil p).mp (V.str.inj (of_decide_eq_true e))
      refine ⟨_, rfl, rfl, ?_⟩
      have e2 : decide (V.str q = V.str "") = fitS p q := by
        unfold fitS
        rw [e1]
        show _ = q.cps.toList.isEmpty
        rw [Bool.eq_iff_iff, decide_eq_true_iff, List.isEmpty_iff]
        exact ⟨fun z => (str_nil q).mp (V.str.inj z), fun z => congrArg V.str ((str_nil q).mpr z)⟩
      rw [e2]
      exact k1 _ (GoE.refl tk)
    · have e1 : p.cps.toList ≠ [] := fun z => e (decide_eq_true (congrArg V.str ((str_nil p).mpr z)))
      refine ⟨_, rfl, ⟨_, rfl⟩, _, _, rfl, rfl, _, rfl, ite2 (fun e2 => ?_) (fun e2 => ?_)⟩
      · -- **
        obtain ⟨p2, ep⟩ := (starts2 p).mp e2
        refine ⟨_, rfl, _, rfl, hql, _, _, rfl, rfl, _, rfl, (by have := hq; show -(2 ^ 62 : Int) ≤ (q.length : Int) + 1; omega), (by have := hq; rw [tl_len] at this; show (q.length : Int) + 1 < 2 ^ 62; omega), tk.f, fun H2 cd tb => ?_⟩
        have g2 : Go T H H2 := tk.fx tb
        have el : (((q.length : Int) + 1).toNat) = q.cps.toList.length + 1 := by rw [tl_len]; omega
        have hfit : fitS p q = (List.range (q.cps.toList.length + 1)).any fun k => fitL p2 (q.cps.toList.drop k) := by
          unfold fitS
          rw [ep, fit_ss]
        refine turns_of (q.cps.toList.length + 1) (fun i G => Go T H G ∧ ∀ j, j < i → fitL p2 (q.cps.toList.drop j) = false) ⟨g2, fun j hj => absurd hj (Nat.not_lt_zero j)⟩ (fun G h => ⟨Nat.le_of_eq el, ?_⟩) (fun i G hi h => ⟨Nat.lt_of_lt_of_eq hi el.symm, fun x G' y => ?_⟩)
        · have e5 : fitS p q = false := by
            rw [hfit, List.any_eq_false]
            intro j hj
            rw [h.2 j (List.mem_range.mp hj)]
            exact Bool.false_ne_true
          rw [← e5]
          exact k1 G h.1
        · obtain ⟨rfl, rfl⟩ := y
          refine ⟨wipe_one, _, rfl, 2, rfl, p, rfl, hpl, _, rfl, _, rfl, _, rfl, q, rfl, hql, hs _ _ _ _ _ ?_ hn ?_ h.1.2 fun G2 g3 => ⟨_, rfl, ?_⟩⟩
          · rw [cut2, ep]
            rw [ep] at hp
            exact Nat.lt_of_lt_of_le (by show p2.length < p2.length + 1 + 1; omega) hp
          · rw [cutI, List.length_drop]
            omega
          · have ef : fitS (cutS p (some 2) none) (cutS q (some (0 + (i : Int))) none) = fitL p2 (q.cps.toList.drop i) := by
              unfold fitS
              rw [cutI, cut2, ep]
              rfl
            rw [ef]
            by_cases hb : fitL p2 (q.cps.toList.drop i) = false
            · rw [if_pos hb]
              refine ⟨h.1.trans g3, fun j hj => ?_⟩
              rcases Nat.lt_or_ge j i with z | z
              · exact h.2 j z
              · rw [show j = i from by omega]
                exact hb
            · rw [if_neg hb]
              have e5 : fitS p q = true := by
                rw [hfit, List.any_eq_true]
                exact ⟨i, List.mem_range.mpr hi, by simpa using hb⟩
              show Q (.bl true) G2
              rw [← e5]
              exact k1 G2 (h.1.trans g3)
      · obtain ⟨c0, p2, ep⟩ : ∃ c0 p2, p.cps.toList = c0 :: p2 := by
          match h : p.cps.toList, e1 with
          | c0 :: p2, _ => exact ⟨c0, p2, rfl⟩
        refine ⟨_, rfl, p, 0, c0, rfl, rfl, hpl, at0 ep, rfl, _, rfl, ite2 (fun e3 => ?_) (fun e3 => ?_)⟩
        · -- *
          have ec : c0 = 42 := one_eq.mp (of_decide_eq_true e3)
          subst ec
          have hn2 : ∀ r, p2 ≠ 42 :: r := fun r z => e2 ((starts2 p).mpr ⟨r, by rw [ep, z]⟩)
          have hfit : fitS p q = starL (fitL p2) q.cps.toList := by
            unfold fitS
            rw [ep, fit_s hn2]
          refine ⟨fun m σ G => ∃ i, i + m = q.cps.toList.length ∧ σ = [some (.str p), some (.str q), some (.int (i : Int))] ∧ Go T H G ∧ fitS p q = starL (fitL p2) (q.cps.toList.drop i), ⟨q.cps.toList.length, 0, Nat.zero_add _, rfl, GoE.refl tk, hfit⟩, ?_⟩
          rintro m σ G ⟨i, hi, rfl, g, hf⟩
          refine ⟨_, rfl, iteT ?_⟩
          have hil : i ≤ q.cps.toList.length := by omega
          refine ⟨fun σ' G' => ∃ m', m' < m ∧ ∃ i, i + m' = q.cps.toList.length ∧ σ' = [some (.str p), some (.str q), some (.int (i : Int))] ∧ Go T H G' ∧ fitS p q = starL (fitL p2) (q.cps.toList.drop i), fun σ' G' w => w, ?_⟩
          -- if fits(pattern[1:], path[at:])
          refine ⟨_, rfl, 1, rfl, p, rfl, hpl, _, rfl, _, rfl, (i : Int), rfl, q, rfl, hql, hs _ _ _ _ _ ?_ hn ?_ g.2 fun G2 g2 => ⟨_, rfl, ?_⟩⟩
          · rw [cut1, ep]
            rw [ep] at hp
            exact Nat.lt_of_lt_of_le (by show p2.length < p2.length + 1; omega) hp
          · rw [cutd, List.length_drop]
            omega
          have ef : fitS (cutS p (some 1) none) (cutS q (some (i : Int)) none) = fitL p2 (q.cps.toList.drop i) := by
            unfold fitS
            rw [cutd q i, cut1, ep]
            rfl
          have g3 := g.trans g2
          rw [ef]
          refine ite2 (fun e4 => ?_) (fun e4 => ?_)
          · -- return True
            have e5 : fitS p q = true := by
              rw [hf]
              cases hd : q.cps.toList.drop i with
              | nil => rw [hd] at e4; exact e4
              | cons d r =>
                rw [hd] at e4
                show (fitL p2 (d :: r) || _) = true
                rw [e4]
                rfl
            show Q (.bl true) G2
            rw [← e5]
            exact k1 G2 g3
          · -- if at == len(path) or path[at] == "/"
            have e6 : fitL p2 (q.cps.toList.drop i) = false := by simpa using e4
            refine ⟨_, rfl, _, rfl, _, rfl, hql, rfl, _, rfl, orR (fun e7 => ?_) (fun e7 => ?_)⟩
            · -- at the end
              have e8 : (i : Int) = (q.length : Int) := V.int.inj (of_decide_eq_true e7)
              have e9 : fitS p q = false := by
                rw [hf]
                rw [List.drop_of_length_le (by rw [tl_len]; omega)] at e6 ⊢
                exact e6
              refine iteT ?_
              show Q (.bl false) G2
              rw [← e9]
              exact k1 G2 g3
            · have hne : i < q.cps.toList.length := by
                have : ¬ ((i : Int) = (q.length : Int)) := fun z => (of_decide_eq_false e7) (congrArg V.int z)
                rw [tl_len] at hil ⊢
                omega
              have eg : q.cps.toList.drop i = q.cps.toList[i] :: q.cps.toList.drop (i + 1) := List.drop_eq_getElem_cons hne
              refine ⟨_, rfl, _, rfl, q, (i : Int), q.cps.toList[i], rfl, rfl, hql, atI_nat (List.getElem?_eq_getElem hne), rfl, _, rfl, ?_⟩
              refine ite2 (fun e8 => ?_) (fun e8 => ?_)
              · have ed : q.cps.toList[i] = 47 := one_eq.mp (of_decide_eq_true e8)
                have e9 : fitS p q = false := by
                  rw [hf]
                  rw [eg] at e6 ⊢
                  show (fitL p2 _ || (!decide (q.cps.toList[i] = 47) && _)) = false
                  rw [e6, ed]
                  rfl
                show Q (.bl false) G2
                rw [← e9]
                exact k1 G2 g3
              · have nd : q.cps.toList[i] ≠ 47 := fun z => e8 (decide_eq_true (one_eq.mpr z))
                refine ⟨_, rfl, _, _, rfl, rfl, m - 1, by omega, i + 1, by omega, rfl, g3, ?_⟩
                rw [hf]
                rw [eg] at e6 ⊢
                show (fitL p2 _ || (!decide (q.cps.toList[i] = 47) && starL (fitL p2) (q.cps.toList.drop (i + 1)))) = _
                rw [e6, decide_eq_false nd]
                rfl
        · have nc : c0 ≠ 42 := fun z => e3 (decide_eq_true ((one_eq (d := 42)).mpr z))
          refine ⟨_, rfl, rfl, _, rfl, orR (fun e4 => ?_) (fun e4 => ?_)⟩
          · have eq0 : q.cps.toList = [] := (str_nil q).mp (V.str.inj (of_decide_eq_true e4))
            have e9 : fitS p q = false := by
              unfold fitS
              rw [ep, eq0, fit_c0 nc]
            refine iteT ?_
            show Q (.bl false) H
            rw [← e9]
            exact k1 H (GoE.refl tk)
          · have nq : q.cps.toList ≠ [] := fun z => (of_decide_eq_false e4) (congrArg V.str ((str_nil q).mpr z))
            obtain ⟨d, q2, eq⟩ : ∃ d q2, q.cps.toList = d :: q2 := by
              match h : q.cps.toList, nq with
              | d :: q2, _ => exact ⟨d, q2, rfl⟩
            have hfit : fitS p q = (!(decide (c0 = 63) && decide (d = 47)) && (decide (c0 = 63) || decide (c0 = d)) && fitL p2 q2) := by
              unfold fitS
              rw [ep, eq, fit_c nc]
            have no : fitS p q = false → ∀ G, Go T H G → Q (.bl false) G := fun z G g => by
              rw [← z]
              exact k1 G g
            have w1 : (V.str ⟨#[c0]⟩ = V.str "?") ↔ c0 = 63 := one_eq (d := 63)
            have w2 : (V.str ⟨#[d]⟩ = V.str "/") ↔ d = 47 := one_eq (d := 47)
            have inv : inV (.str ⟨#[c0]⟩) [.str "?", .str ⟨#[d]⟩] = (decide (c0 = 63) || decide (c0 = d)) := by
              show ((((Str.ofString "?") == (⟨#[c0]⟩ : Str)) || (((⟨#[d]⟩ : Str) == (⟨#[c0]⟩ : Str)) || false)) : Bool) = _
              rw [Bool.or_false, Bool.eq_iff_iff, Bool.or_eq_true, Bool.or_eq_true, beq_iff_eq, beq_iff_eq, decide_eq_true_iff, decide_eq_true_iff]
              constructor
              · rintro (z | z)
                · exact .inl (w1.mp (congrArg V.str z.symm))
                · exact .inr (one_eq.mp (congrArg V.str z.symm))
              · rintro (z | z)
                · exact .inl (V.str.inj (w1.mpr z)).symm
                · exact .inr (by rw [z])
            refine ⟨_, rfl, p, 0, c0, rfl, rfl, hpl, at0 ep, rfl, _, rfl, orR (fun e5 => ⟨_, rfl, q, 0, d, rfl, rfl, hql, at0 eq, rfl, _, rfl, orR (fun e6 => iteT ?_) (fun e6 => ?_)⟩) (fun e5 => ?_)⟩
            · refine no ?_ _ (GoE.refl tk)
              rw [hfit, decide_eq_true (w1.mp (of_decide_eq_true e5)), decide_eq_true (w2.mp (of_decide_eq_true e6))]
              rfl
            · have hx : (decide (c0 = 63) && decide (d = 47)) = false := by
                rw [decide_eq_false fun z => (of_decide_eq_false e6) (w2.mpr z), Bool.and_false]
              refine ⟨_, rfl, p, 0, c0, rfl, rfl, hpl, at0 ep, _, rfl, q, 0, d, rfl, rfl, hql, at0 eq, by show 2 ≤ sizeLine; decide, fun t ht => ⟨t, _, rfl, .inr (SqT.of upd_same), rfl, rfl, _, rfl, ?_⟩⟩
              have gt : Go T H (upd H t (.tup [.str "?", .str ⟨#[d]⟩])) := go_upd tk ht
              rw [if_pos rfl, inv]
              refine ite2 (fun e7 => ?_) (fun e7 => ?_)
              · refine no ?_ _ gt
                have e8 : (decide (c0 = 63) || decide (c0 = d)) = false := by simpa using e7
                rw [hfit, e8, Bool.and_false, Bool.false_and]
              · have e8 : (decide (c0 = 63) || decide (c0 = d)) = true := by
                  cases hb : (decide (c0 = 63) || decide (c0 = d)) with
                  | true => rfl
                  | false => exact absurd (by rw [hb]; rfl) e7
                refine ⟨_, rfl, 1, rfl, p, rfl, hpl, _, rfl, 1, rfl, q, rfl, hql, hs _ _ _ _ _ ?_ hn ?_ gt.2 fun G2 g2 => ?_⟩
                · rw [cut1, ep]
                  rw [ep] at hp
                  exact Nat.lt_of_lt_of_le (by show p2.length < p2.length + 1; omega) hp
                · rw [cut1, List.length_drop]
                  omega
                · have ef : fitS (cutS p (some 1) none) (cutS q (some 1) none) = fitS p q := by
                    rw [hfit, hx, e8]
                    unfold fitS
                    rw [cut1, cut1, ep, eq]
                    rfl
                  rw [ef]
                  exact k1 G2 (gt.trans g2)
            · have hx : (decide (c0 = 63) && decide (d = 47)) = false := by
                rw [decide_eq_false fun z => (of_decide_eq_false e5) (w1.mpr z), Bool.false_and]
              refine ⟨_, rfl, p, 0, c0, rfl, rfl, hpl, at0 ep, _, rfl, q, 0, d, rfl, rfl, hql, at0 eq, by show 2 ≤ sizeLine; decide, fun t ht => ⟨t, _, rfl, .inr (SqT.of upd_same), rfl, rfl, _, rfl, ?_⟩⟩
              have gt : Go T H (upd H t (.tup [.str "?", .str ⟨#[d]⟩])) := go_upd tk ht
              rw [if_pos rfl, inv]
              refine ite2 (fun e7 => ?_) (fun e7 => ?_)
              · refine no ?_ _ gt
                have e8 : (decide (c0 = 63) || decide (c0 = d)) = false := by simpa using e7
                rw [hfit, e8, Bool.and_false, Bool.false_and]
              · have e8 : (decide (c0 = 63) || decide (c0 = d)) = true := by
                  cases hb : (decide (c0 = 63) || decide (c0 = d)) with
                  | true => rfl
                  | false => exact absurd (by rw [hb]; rfl) e7
                refine ⟨_, rfl, 1, rfl, p, rfl, hpl, _, rfl, 1, rfl, q, rfl, hql, hs _ _ _ _ _ ?_ hn ?_ gt.2 fun G2 g2 => ?_⟩
                · rw [cut1, ep]
                  rw [ep] at hp
                  exact Nat.lt_of_lt_of_le (by show p2.length < p2.length + 1; omega) hp
                · rw [cut1, List.length_drop]
                  omega
                · have ef : fitS (cutS p (some 1) none) (cutS q (some 1) none) = fitS p q := by
                    rw [hfit, hx, e8]
                    unfold fitS
                    rw [cut1, cut1, ep, eq]
                    rfl
                  rw [ef]
                  exact k1 G2 (gt.trans g2)
theorem fn_false {k : Nat} {f : Addr} {fd : FuncData} {ps : List Str} : FnOk P w K mg base CX0 k f fd ps fun _ _ _ _ => False := ⟨fun _ _ _ _ h => h.elim, fun _ _ _ _ _ _ _ _ _ _ _ _ _ h => h.elim⟩
/-- fits, of patterns of up to n signs -/
theorem ok_fits {f c : Addr} {fd : FuncData} (F : FunC K "fits" "fits" sFits f c fd) (X : Tx K mg) (bf : TabB base mg c T.f) (mF : mg "fits" = some (.ref f)) (bF : Binds K fd ["pattern", "path"] []) :
    ∀ n : Nat, FnOk P w K mg base CX0 (2 * n + 2) f fd ["pattern", "path"] (spFits T n)
  | 0 => fits_step F X bf mF bF (fn_false (k := 0)) fun p q H Q E h _ _ _ _ => absurd h (Nat.not_lt_zero _)
  | n + 1 => fits_step F X bf mF bF (ok_fits F X bf mF bF n) fun p q H Q E h hn hq tk k => ⟨p, q, rfl, by omega, by omega, hq, tk, k⟩
end
end Sg
end Text_S3
section Text_S4
set_option Elab.async false
set_option linter.all false
set_option maxRecDepth 100000
set_option maxHeartbeats 4000000
namespace Sg
open PySem PySem.Spec PyProof.Rows L2 Gx GxR
def leS (a b : Str) : Prop := a.cps.toList ≤ b.cps.toList
instance (a b : Str) : Decidable (leS a b) := by unfold leS; infer_instance
theorem leS_refl (a : Str) : leS a a := List.le_refl _
theorem leS_trans {a b c : Str} (h : leS a b) (k : leS b c) : leS a c := List.le_trans h k
theorem leS_total (a b : Str) : leS a b ∨ leS b a := List.le_total _ _
theorem leS_anti {a b : Str} (h : leS a b) (k : leS b a) : a = b := by
  have e := List.le_antisymm h k
  exact str_ext e
theorem le_of_rise {a b : Str} (h : (!ltCps b.cps.toList a.cps.toList) = true) : leS a b := by
  rw [ltCps_eq] at h
  simp at h
  exact h
theorem rise_pw : ∀ (l : List Str) (p : Str), risingS p l = true → (p :: l).Pairwise leS
  | [], p, _ => List.pairwise_singleton ..
  | x :: r, p, h => by
    have h' := Bool.and_eq_true_iff.mp h
    have ih := rise_pw r x h'.2
    have le := le_of_rise h'.1
    refine List.pairwise_cons.mpr ⟨fun y hy => ?_, ih⟩
    rcases List.mem_cons.mp hy with e | hy
    · rw [e]; exact le
    · exact leS_trans le ((List.pairwise_cons.mp ih).1 y hy)
theorem sorted_pw (l : List Str) (h : sortedS l = true) : l.Pairwise leS := by
  cases l with
  | nil => exact List.Pairwise.nil
  | cons x r => exact rise_pw r x h
/-- texts in order -/
def srt (l : List Str) : List Str := l.mergeSort fun a b => decide (leS a b)
theorem srt_pw (l : List Str) : (srt l).Pairwise leS := by
  have := List.pairwise_mergeSort (le := fun a b => decide (leS a b)) (fun a b c h k => decide_eq_true (leS_trans (of_decide_eq_true h) (of_decide_eq_true k))) (fun a b => by
    rcases leS_total a b with h | h
    · simp [h]
    · simp [h]) l
  exact this.imp fun h => of_decide_eq_true h
theorem srt_perm (l : List Str) : (srt l).Perm l := List.mergeSort_perm l _
theorem srt_eq {ys xs : List Str} (p : ys.Perm xs) (h : sortedS ys = true) : ys = srt xs :=
  List.Perm.eq_of_pairwise (le := leS) (fun a b _ _ x y => leS_anti x y) (sorted_pw _ h) (srt_pw _) (p.trans (srt_perm xs).symm)
/-- keys, each once -/
def uniq (xs : List Str) : List Str := xs.foldl (fun l x => if x ∈ l then l else l ++ [x]) []
theorem uniq_snoc (l : List Str) (x : Str) : uniq (l ++ [x]) = if x ∈ uniq l then uniq l else uniq l ++ [x] := by
  unfold uniq
  rw [List.foldl_append]
  rfl
theorem uniq_take {xs : List Str} {i : Nat} {x : Str} (h : xs[i]? = some x) : uniq (xs.take (i + 1)) = if x ∈ uniq (xs.take i) then uniq (xs.take i) else uniq (xs.take i) ++ [x] := by
  rw [List.take_add_one, h]
  exact uniq_snoc _ _
theorem uniq_rev (l : List Str) : (∀ x, x ∈ uniq l.reverse ↔ x ∈ l) ∧ (uniq l.reverse).Nodup ∧ (uniq l.reverse).length ≤ l.length := by
  induction l with
  | nil => exact ⟨fun x => by simp [uniq], List.nodup_nil, Nat.le_refl _⟩
  | cons y r ih =>
    obtain ⟨i1, i2, i3⟩ := ih
    rw [List.reverse_cons, uniq_snoc]
    by_cases h : y ∈ uniq r.reverse
    · rw [if_pos h]
      refine ⟨fun x => ⟨fun m => List.mem_cons_of_mem _ ((i1 x).mp m), fun m => ?_⟩, i2, Nat.le_trans i3 (by simp)⟩
      rcases List.mem_cons.mp m with e | m
      · rw [e]; exact h
      · exact (i1 x).mpr m
    · rw [if_neg h]
      refine ⟨fun x => ?_, nd_snoc i2 h, by simp; omega⟩
      rw [List.mem_append, i1]
      simp [or_comm]
theorem mem_uniq (l : List Str) (x : Str) : x ∈ uniq l ↔ x ∈ l := by
  have := (uniq_rev l.reverse).1 x
  rw [List.reverse_reverse, List.mem_reverse] at this
  exact this
theorem uniq_nd (l : List Str) : (uniq l).Nodup := by
  have := (uniq_rev l.reverse).2.1
  rw [List.reverse_reverse] at this
  exact this
theorem uniq_len (l : List Str) : (uniq l).length ≤ l.length := by
  have := (uniq_rev l.reverse).2.2
  rw [List.reverse_reverse, List.length_reverse] at this
  exact this
/-- a dict of keys to one value -/
def keyTab (v : V) (u : List Str) : List (Key × V) := u.map fun x => (Sum.inr x, v)
theorem put_key (v : V) (u : List Str) (x : Str) : putK (keyTab v u) (Sum.inr x) v = keyTab v (if x ∈ u then u else u ++ [x]) := by
  unfold putK keyTab
  by_cases h : x ∈ u
  · rw [if_pos h, if_pos (by rw [List.any_eq_true]; exact ⟨(Sum.inr x, v), List.mem_map.mpr ⟨x, h, rfl⟩, by simp⟩), List.map_map]
    refine List.map_congr_left fun y _ => ?_
    show (if (Sum.inr y : Key) = Sum.inr x then ((Sum.inr y : Key), v) else (Sum.inr y, v)) = (Sum.inr y, v)
    split <;> rfl
  · rw [if_neg h, if_neg (by
      rw [List.any_eq_true]
      rintro ⟨p, hp, e⟩
      obtain ⟨y, hy, rfl⟩ := List.mem_map.mp hp
      have e' := of_decide_eq_true e
      exact h (by rw [← Sum.inr.inj e']; exact hy)), List.map_append]
    rfl
theorem put_new {κ : Type} [DecidableEq κ] (l : List (κ × V)) (k : κ) (v : V) (h : k ∉ l.map (·.1)) : putK l k v = l ++ [(k, v)] := by
  unfold putK
  rw [if_neg]
  rw [List.any_eq_true]
  rintro ⟨p, hp, e⟩
  exact h (List.mem_map.mpr ⟨p, hp, of_decide_eq_true e⟩)
/-- keys, each once, in order -/
def so (xs : List Str) : List Str := srt (uniq xs)
theorem so_len (xs : List Str) : (so xs).length ≤ xs.length := by
  unfold so
  rw [(srt_perm _).length_eq]
  exact uniq_len xs
theorem mem_so (xs : List Str) (x : Str) : x ∈ so xs ↔ x ∈ xs := by
  unfold so
  rw [(srt_perm _).mem_iff]
  exact mem_uniq xs x
theorem so_nd (xs : List Str) : (so xs).Nodup := by
  unfold so
  exact (srt_perm _).nodup_iff.mpr (uniq_nd xs)
theorem so_pw (xs : List Str) : (so xs).Pairwise leS := srt_pw _
theorem keyTab_keys (v : V) (u : List Str) : (keyTab v u).map (·.1) = u.map Sum.inr := by
  unfold keyTab
  rw [List.map_map]
  rfl
theorem keyTab_len (v : V) (u : List Str) : (keyTab v u).length = u.length := by
  unfold keyTab
  rw [List.length_map]
/-- {x: v for x in xs} of a list of texts -/
theorem dc_uniq {K : PySem.W.Frag} {a : Addr} {xs : List Str} {i : Nat} {v : V} {tv : TE} {σ : L2.St} {H1 : Hp} {D : Addr} {Qd : Hp → Prop} (hi : i < σ.length) (hS : SqL K (upd H1 D (.dK [])) a (xs.map V.str)) (hS2 : ∀ u, SqL K (upd H1 D u) a (xs.map V.str)) (hl : xs.length ≤ 1000)
    (htv : ∀ σ H (Q : VK), Q v H → tv σ H Q) (h : Qd (upd H1 D (.dK (keyTab v (uniq xs))))) :
    ∃ W : Nat → Nat → Hp → Prop, (∃ m, W 0 m (upd H1 D (.dK []))) ∧ ∀ j m H, W j m H →
      ((Itl K a).stop j H ∧ Qd H) ∨ ((Itl K a).go j H ∧ ∃ Nx : Hp → Prop, (∀ H', Nx H' → ∃ m', m' < m ∧ W (j + 1) m' H') ∧ ∀ x H', (Itl K a).yld j H x H' → gName i x (wipe σ [i]) H' fun σ2 H2 => wipe σ2 [i] = wipe σ [i] ∧ tYes σ2 H2 fun b H3 =>
        if b = true then tVar i σ2 H3 fun y H4 => tv σ2 H4 fun z H5 => ∃ kvs k, y = kV k ∧ H5 D = some (.dK kvs) ∧ kvs.length < sizeLine ∧ Nx (upd H5 D (.dK (putK kvs k z))) else Nx H3) := by
  refine dc_list (xs := xs.map V.str) (fun j G => G = upd H1 D (.dK (keyTab v (uniq (xs.take j))))) rfl (fun j G _ e => by rw [e]; exact hS2 _) ?_ (fun G e => ?_)
  · intro j x G hx e
    subst e
    rw [List.getElem?_map] at hx
    cases hj : xs[j]? with
    | none => rw [hj] at hx; cases hx
    | some y =>
      rw [hj] at hx
      obtain rfl := Option.some.inj hx
      refine ⟨wipe_one, .str y, ?_, htv _ _ _ ⟨keyTab v (uniq (xs.take j)), Sum.inr y, (rfl : V.str y = kV (Sum.inr y)), upd_same, ?_, ?_⟩⟩
      · rw [List.getElem?_set_self]
        rw [wipe_length]
        exact hi
      · rw [keyTab_len, sizeLine_eq]
        have h1 := uniq_len (xs.take j)
        have h2 : (xs.take j).length ≤ xs.length := by rw [List.length_take]; omega
        omega
      · rw [upd_upd, put_key, uniq_take hj]
  · subst e
    rw [List.length_map, List.take_length]
    exact h
/-- what is new may change -/
theorem GoE.news {T : Tb} {S : List Addr} {H G0 G : Hp} (h : Go T H G0) (g : GoE T S G0 G) (n : ∀ b ∈ S, Fresh H b) : Go T H G :=
  ⟨fun b o e nt _ => g.1 b o (h.1 b o e nt (.inl (by simp))) nt (.inl fun hb => by
    obtain ⟨ps, e2⟩ := n b hb o e
    exact nt ps e2), g.2⟩
theorem mu_lst {xs : List V} : (∀ ps, HO.lst xs ≠ .tbl ps) ∧ (∀ φ, HO.lst xs ≠ .ext φ) ∧ ∀ ys, HO.lst xs ≠ .tup ys := ⟨(by intro _ z; cases z), (by intro _ z; cases z), (by intro _ z; cases z)⟩
theorem mu_dK {xs : List (Key × V)} : (∀ ps, HO.dK xs ≠ .tbl ps) ∧ (∀ φ, HO.dK xs ≠ .ext φ) ∧ ∀ ys, HO.dK xs ≠ .tup ys := ⟨(by intro _ z; cases z), (by intro _ z; cases z), (by intro _ z; cases z)⟩
theorem mu_ins {C d : Addr} {fs : List (Str × V)} : (∀ ps, HO.ins C d fs ≠ .tbl ps) ∧ (∀ φ, HO.ins C d fs ≠ .ext φ) ∧ ∀ ys, HO.ins C d fs ≠ .tup ys := ⟨(by intro _ z; cases z), (by intro _ z; cases z), (by intro _ z; cases z)⟩
/-- n turns of a consumer, with what holds ahead of each -/
theorem turnsK_of {J : It} {g : TG} {tt : TT} {te : TE} {vs : List Nat} {σ0 : L2.St} {C : Hp → Con} {F : Lef} {Qe : Hp → Prop} {H : Hp} (n : Nat) (Pv : Nat → Hp → Prop) (h0 : Pv 0 H) (hs : ∀ H, Pv n H → J.stop n H ∧ Qe H)
    (hg : ∀ i H, i < n → Pv i H → J.go i H ∧ ∀ x H', J.yld i H x H' → g x σ0 H' fun σ2 H2 => wipe σ2 vs = σ0 ∧ tt σ2 H2 fun b H3 => if b = true then te σ2 H3 fun y H4 => C H y H4 (Pv (i + 1)) else F H H3 (Pv (i + 1))) :
    ∃ W : Nat → Nat → Hp → Prop, (∃ m, W 0 m H) ∧ TurnK J g tt te vs σ0 C F Qe W := by
  refine ⟨fun i m H => i + m = n ∧ Pv i H, ⟨n, Nat.zero_add n, h0⟩, fun i m H w => ?_⟩
  obtain ⟨e, p⟩ := w
  rcases Nat.lt_or_ge i n with hi | hi
  · obtain ⟨a, b⟩ := hg i H hi p
    exact .inr ⟨a, Pv (i + 1), fun H' p' => ⟨m - 1, by omega, by omega, p'⟩, b⟩
  · have e2 : i = n := by omega
    subst e2
    exact .inl (hs H p)
end Sg
end Text_S4
section Text_S5
set_option Elab.async false
set_option linter.all false
set_option maxRecDepth 100000
set_option maxHeartbeats 4000000
namespace Sg
open PySem PySem.Spec PyProof.Rows L2 Gx GxR
/-- item by item -/
def All2 {α β : Type} (F : α → β → Prop) (xs : List α) (ys : List β) : Prop := xs.length = ys.length ∧ ∀ (i : Nat) x y, xs[i]? = some x → ys[i]? = some y → F x y
theorem All2.nil {α β : Type} {F : α → β → Prop} : All2 F [] [] := ⟨rfl, fun i x y h => by simp at h⟩
theorem All2.imp {α β : Type} {F G : α → β → Prop} {xs : List α} {ys : List β} (a : All2 F xs ys) (h : ∀ x y, F x y → G x y) : All2 G xs ys := ⟨a.1, fun i x y h1 h2 => h x y (a.2 i x y h1 h2)⟩
theorem All2.snoc {α β : Type} {F : α → β → Prop} {xs : List α} {ys : List β} {x : α} {y : β} (a : All2 F xs ys) (h : F x y) : All2 F (xs ++ [x]) (ys ++ [y]) := by
  obtain ⟨e, k⟩ := a
  refine ⟨by simp [e], fun i u v h1 h2 => ?_⟩
  rcases Nat.lt_trichotomy i xs.length with hi | hi | hi
  · rw [List.getElem?_append_left hi] at h1
    rw [List.getElem?_append_left (by omega)] at h2
    exact k i u v h1 h2
  · rw [List.getElem?_append_right (by omega), hi, Nat.sub_self] at h1
    rw [List.getElem?_append_right (by omega), hi, e, Nat.sub_self] at h2
    simp at h1 h2
    rw [← h1, ← h2]
    exact h
  · rw [List.getElem?_eq_none (by simp; omega)] at h1
    cases h1
theorem All2.at {α β : Type} {F : α → β → Prop} {xs : List α} {ys : List β} {i : Nat} {x : α} (a : All2 F xs ys) (h : xs[i]? = some x) : ∃ y, ys[i]? = some y ∧ F x y := by
  have hi := (List.getElem?_eq_some_iff.mp h).1
  have hj : i < ys.length := by rw [← a.1]; exact hi
  exact ⟨ys[i], List.getElem?_eq_getElem hj, a.2 i _ _ h (List.getElem?_eq_getElem hj)⟩
theorem take_snoc {α : Type} {xs : List α} {i : Nat} {x : α} (h : xs[i]? = some x) : xs.take (i + 1) = xs.take i ++ [x] := by
  rw [List.take_add_one, h]
  rfl
theorem str_at {xs : List Str} {i : Nat} {x : V} (h : (xs.map V.str)[i]? = some x) : ∃ y, xs[i]? = some y ∧ x = .str y := by
  rw [List.getElem?_map] at h
  cases e : xs[i]? with
  | none => rw [e] at h; cases h
  | some y => rw [e] at h; exact ⟨y, rfl, (Option.some.inj h).symm⟩
/-! tables of files -/
abbrev Files := List (Str × Str)
def fk (A : Files) : List (Key × V) := A.map fun p => (Sum.inr p.1, .str p.2)
def lk (A : Files) (p : Str) : Option Str := (A.find? fun q => decide (q.1 = p)).map (·.2)
theorem fk_len (A : Files) : (fk A).length = A.length := by unfold fk; rw [List.length_map]
theorem valV_fk (A : Files) (p : Str) : valV (fk A) (Sum.inr p) = (lk A p).map V.str := by
  unfold valV fk lk
  rw [List.find?_map]
  have e : ((fun q : Key × V => decide (q.1 = Sum.inr p)) ∘ fun q : Str × Str => ((Sum.inr q.1 : Key), V.str q.2)) = fun q : Str × Str => decide (q.1 = p) := by
    funext q
    show decide ((Sum.inr q.1 : Key) = Sum.inr p) = _
    rw [Bool.eq_iff_iff, decide_eq_true_iff, decide_eq_true_iff]
    exact ⟨fun h => Sum.inr.inj h, fun h => by rw [h]⟩
  rw [e]
  cases A.find? fun q => decide (q.1 = p) <;> rfl
def chgOf (A B : Files) (p : Str) : Option (Str × Str) := match lk A p, lk B p with
  | none, _ => some ("come", p)
  | some _, none => some ("gone", p)
  | some x, some y => if x = y then none else some ("other", p)
def paths (A B : Files) : List Str := so (A.map (·.1) ++ B.map (·.1))
def chg (A B : Files) : List (Str × Str) := (paths A B).filterMap (chgOf A B)
/-- a pair of texts -/
def PairAt (H : Hp) (v : V) (r : Str × Str) : Prop := ∃ t, v = .ref t ∧ H t = some (.tup [.str r.1, .str r.2])
theorem PairAt.ext {H H' : Hp} {v : V} {r : Str × Str} (p : PairAt H v r) (e : ExtT H H') : PairAt H' v r := let ⟨t, a, b⟩ := p; ⟨t, a, e _ _ b⟩
def spChg (T : Tb) : Sp := fun vs H Q _ => ∃ a b A B, vs = [.ref a, .ref b] ∧ H a = some (.dK (fk A)) ∧ H b = some (.dK (fk B)) ∧ A.length ≤ 10 ∧ B.length ≤ 10 ∧ TOk T H ∧
  ∀ H' t xs, Go T H H' → H' t = some (.tup xs) → All2 (PairAt H') xs (chg A B) → Q (.ref t) H'
abbrev NC : List Str := ["one", "other", "found", "path"]
theorem scC : FnScope NC ["one", "other"] (defScope sChanges) := ⟨rfl, rfl, rfl, by decide +kernel, rfl, by decide +kernel, by decide +kernel⟩
section
variable {P : Program} {w : World} {K : PySem.W.Frag} {mg : Str → Option Value} {base : Heap} {T : Tb}
theorem ok_chg {f : Addr} {fd : FuncData} (F : Fun K "changes" "changes" sChanges f fd) (X : Tx K mg) : FnOk P w K mg base CX0 1 f fd ["one", "other"] (spChg T) := by
  refine F.ok scC (fun vs H Q E h => ?_) (fun cdv A0 outer s H vs Q E hr h => ?_)
  · obtain ⟨a, b, A, B, rfl, _⟩ := h
    rfl
  · obtain ⟨a, b, A, B, rfl, ha, hb, lA, lB, tk, k1⟩ := h
    have hu := hu_of hr
    refine ⟨_, pss_cons (ps_set (i := 2) scC.nd rfl (Or.inl rfl) (pe_lst pa_nil))
      (pss_cons (ps_for PassesOwn.never rfl (pi_list (pe_callB (call_sortedD rfl) (by rfl) X.sorted (by decide +kernel) (pa_cons (pe_dc (own := [("path", 3)]) (g := gName 3) rfl scC.nd
          (pi_list (pe_op op_cat (pe_callTy (call_listD rfl) (by rfl) X.list (by decide +kernel) (pa_cons (pv 0) pa_nil)) (pe_callTy (call_listD rfl) (by rfl) X.list (by decide +kernel) (pa_cons (pv 1) pa_nil))))
          (blkOk_by (N := NC) (sc := defScope sChanges) (by decide +kernel)) (fun _ _ _ _ _ => pg_name (i := 3) scC.nd rfl (Or.inl rfl)) (fun _ _ _ _ _ => pts_nil) (fun _ _ _ _ _ => pv 3) (fun _ _ _ _ _ => pe_bl)) pa_nil))) (pg_name (i := 3) scC.nd rfl (Or.inl rfl))
        (pss_one (ps_if (pt_cmp (pc_dnotin hu (pv 3) (pv 0)))
          (pss_one (ps_expr (pe_bm PySem.F.plainAttrs_list PySem.F.slot_list_append PySem.F.type_list_append mt_append (pv 2) (pa_cons (pe_tup (pa_cons pe_str (pa_cons (pv 3) pa_nil))) pa_nil))))
          (pss_one (ps_if (pt_cmp (pc_dnotin hu (pv 3) (pv 1)))
            (pss_one (ps_expr (pe_bm PySem.F.plainAttrs_list PySem.F.slot_list_append PySem.F.type_list_append mt_append (pv 2) (pa_cons (pe_tup (pa_cons pe_str (pa_cons (pv 3) pa_nil))) pa_nil))))
            (pss_one (ps_if (pt_cmpR op_ne (pe_dget hu (pv 0) (pv 3) (fun _ _ => rfl)) (pe_dget hu (pv 1) (pv 3) (fun _ _ => rfl)) (nomark _))
              (pss_one (ps_expr (pe_bm PySem.F.plainAttrs_list PySem.F.slot_list_append PySem.F.type_list_append mt_append (pv 2) (pa_cons (pe_tup (pa_cons pe_str (pa_cons (pv 3) pa_nil))) pa_nil)))) pss_nil)))))))
      (pss_one (ps_ret (pe_callTy call_tuple_of (by rfl) X.tuple (by decide +kernel) (pa_cons (pv 2) pa_nil))))), ?_⟩
    refine ⟨by decide, fun l hl => ?_⟩
    have h1 : Go T H (upd H l (.lst [])) := go_upd tk hl
    have ha := h1.at ha
    have hb := h1.at hb
    have el1 : upd H l (.lst []) l = some (.lst []) := upd_same
    generalize upd H l (.lst []) = H1 at h1 ha hb el1 ⊢
    have g1 : Go T H1 H1 := GoE.refl h1.2
    refine ⟨_, rfl, a, fk A, rfl, Rd.of (g1.at ha), fun p hp => ⟨_, rfl, b, fk B, rfl, ?_⟩⟩
    have g2 := g1.trans (go_upd (o := .lst ((fk A).map fun kv => kV kv.1)) g1.2 hp)
    refine ⟨Rd.of (g2.at hb), fun q hq => ?_⟩
    have g3 := g2.trans (go_upd (o := .lst ((fk B).map fun kv => kV kv.1)) g2.2 hq)
    have hpq : p ≠ q := fun e => by rw [← e, upd_same] at hq; cases hq
    refine ⟨p, q, _, _, rfl, rfl, by rw [upd_ne hpq]; exact upd_same, upd_same, by rw [List.length_map, List.length_map, fk_len, fk_len, sizeLine_eq]; omega, fun r hr => ?_⟩
    have g4 := g3.trans (go_upd (o := .lst (((fk A).map fun kv => kV kv.1) ++ (fk B).map fun kv => kV kv.1)) g3.2 hr)
    have ek : (((fk A).map fun kv => kV kv.1) ++ (fk B).map fun kv => kV kv.1) = (A.map (·.1) ++ B.map (·.1)).map V.str := by
      unfold fk
      rw [List.map_map, List.map_map, List.map_append, List.map_map, List.map_map]
      rfl
    rw [ek] at g4 ⊢
    refine ⟨r, rfl, ⟨_, SqL.of upd_same⟩, fun D hD => ?_⟩
    have hrD : r ≠ D := fun e => by rw [← e, upd_same] at hD; cases hD
    refine dc_uniq (i := 3) (xs := A.map (·.1) ++ B.map (·.1)) (by show (3 : Nat) < 4; decide) (SqL.of (by rw [upd_ne hrD]; exact upd_same)) (fun u => SqL.of (by rw [upd_ne hrD]; exact upd_same)) (by rw [List.length_append, List.length_map, List.length_map]; omega) (fun _ _ _ q => q) ?_
    have g5 := g4.trans (go_upd (o := .dK (keyTab (.bl true) (uniq (A.map (·.1) ++ B.map (·.1))))) g4.2 hD)
    have hlen : (uniq (A.map (·.1) ++ B.map (·.1))).length ≤ 20 := by
      refine Nat.le_trans (uniq_len _) ?_
      rw [List.length_append, List.length_map, List.length_map]
      omega
    refine ⟨D, _, uniq (A.map (·.1) ++ B.map (·.1)), rfl, Rd.of upd_same, keyTab_keys _ _, by omega, fun ys S pm sr hS => ?_⟩
    have ey : ys = paths A B := srt_eq pm sr
    subst ey
    have plen : (paths A B).length ≤ 20 := by
      rw [pm.length_eq]
      exact hlen
    have g6 := g5.trans (go_upd (o := .lst ((paths A B).map V.str)) g5.2 hS)
    generalize hG : upd (upd (upd (upd (upd H1 p (.lst ((fk A).map fun kv => kV kv.1))) q (.lst ((fk B).map fun kv => kV kv.1))) r (.lst ((A.map (·.1) ++ B.map (·.1)).map V.str))) D (.dK (keyTab (.bl true) (uniq (A.map (·.1) ++ B.map (·.1)))))) S (.lst ((paths A B).map V.str)) = G0 at g6 ⊢
    have el0 : G0 l = some (.lst []) := g6.at el1
    have eS0 : G0 S = some (.lst ((paths A B).map V.str)) := by rw [← hG]; exact upd_same
    have hlS : l ≠ S := ne_of_none (g5.at el1) hS
    have ha0 := g6.at ha
    have hb0 := g6.at hb
    have h6 := h1.trans g6
    clear hG
    refine ⟨S, rfl, ⟨_, SqL.of eS0⟩, for_list (xs := (paths A B).map V.str) (fun i σ G => GoE T [l] G0 G ∧ (∃ v, σ = [some (.ref a), some (.ref b), some (.ref l), v]) ∧ G S = some (.lst ((paths A B).map V.str)) ∧ ∃ xs, G l = some (.lst xs) ∧ All2 (PairAt G) xs (((paths A B).take i).filterMap (chgOf A B))) ?_ ?_ ?_ ?_⟩
    · exact ⟨GoE.refl g6.2, ⟨none, rfl⟩, eS0, [], el0, All2.nil⟩
    · intro i σ G _ h
      exact SqL.of h.2.2.1
    · intro i x σ G hix h
      obtain ⟨g, ⟨v, rfl⟩, eS, xs, el, al⟩ := h
      obtain ⟨y, hy, rfl⟩ := str_at hix
      have la : a ≠ l := fun e => by rw [e, el0] at ha0; cases ha0
      have lb : b ≠ l := fun e => by rw [e, el0] at hb0; cases hb0
      have ea := g.at ha0 (by simpa using la)
      have eb := g.at hb0 (by simpa using lb)
      have hxl : xs.length ≤ 20 := by
        rw [al.1]
        refine Nat.le_trans (List.length_filterMap_le _ _) ?_
        rw [List.length_take]
        omega
      have st : (paths A B).take (i + 1) = (paths A B).take i ++ [y] := take_snoc hy
      -- found.append((what, path))
      have fin : ∀ (what : Str) (t : Addr), chgOf A B y = some (what, y) → G t = none → GoE T [l] G0 (upd (upd G t (.tup [.str what, .str y])) l (.lst (xs ++ [.ref t]))) ∧ upd (upd G t (.tup [.str what, .str y])) l (.lst (xs ++ [.ref t])) S = some (.lst ((paths A B).map V.str)) ∧
          ∃ xs', upd (upd G t (.tup [.str what, .str y])) l (.lst (xs ++ [.ref t])) l = some (.lst xs') ∧ All2 (PairAt (upd (upd G t (.tup [.str what, .str y])) l (.lst (xs ++ [.ref t])))) xs' (((paths A B).take (i + 1)).filterMap (chgOf A B)) := by
        intro what t hw ht
        have gt : GoE T [l] G (upd G t (.tup [.str what, .str y])) := go_upd g.2 ht
        have el2 : upd G t (.tup [.str what, .str y]) l = some (.lst xs) := by rw [upd_ne (ne_of_none el ht)]; exact el
        have gl : GoE T [l] (upd G t (.tup [.str what, .str y])) (upd (upd G t (.tup [.str what, .str y])) l (.lst (xs ++ [.ref t]))) := go_set gt.2 el2 mu_lst (by simp)
        have gg := gt.trans gl
        have htl : t ≠ l := (ne_of_none el ht).symm
        refine ⟨g.trans gg, gg.at eS (by simpa using hlS.symm), _, upd_same, ?_⟩
        rw [st, List.filterMap_append]
        have e1 : [y].filterMap (chgOf A B) = [(what, y)] := by simp [hw]
        rw [e1]
        exact (al.imp fun x r h => h.ext gg.t).snoc ⟨t, rfl, by rw [upd_ne htl]; exact upd_same⟩
      have no : chgOf A B y = none → All2 (PairAt G) xs (((paths A B).take (i + 1)).filterMap (chgOf A B)) := by
        intro hw
        rw [st, List.filterMap_append]
        have e1 : [y].filterMap (chgOf A B) = [] := by simp [hw]
        rw [e1, List.append_nil]
        exact al
      refine ⟨_, rfl, _, rfl, a, _, rfl, DGet.k (k := Sum.inr y) ea, _, rfl, ?_⟩
      rw [valV_fk]
      cases hA : lk A y with
      | none =>
        refine iteT ⟨_, rfl, .inl ⟨rfl, _, SqL.of el⟩, _, rfl, by show 2 ≤ sizeLine; decide, fun t ht => ⟨l, xs, _, rfl, rfl, (by rw [upd_ne (ne_of_none el ht)]; exact el), (by rw [sizeLine_eq]; omega), ?_⟩⟩
        obtain ⟨f1, f2, f3⟩ := fin "come" t (by unfold chgOf; rw [hA]) ht
        exact ⟨f1, ⟨_, rfl⟩, f2, f3⟩
      | some u =>
        refine iteF ⟨_, rfl, _, rfl, b, _, rfl, DGet.k (k := Sum.inr y) eb, _, rfl, ?_⟩
        rw [valV_fk]
        cases hB : lk B y with
        | none =>
          refine iteT ⟨_, rfl, .inl ⟨rfl, _, SqL.of el⟩, _, rfl, by show 2 ≤ sizeLine; decide, fun t ht => ⟨l, xs, _, rfl, rfl, (by rw [upd_ne (ne_of_none el ht)]; exact el), (by rw [sizeLine_eq]; omega), ?_⟩⟩
          obtain ⟨f1, f2, f3⟩ := fin "gone" t (by unfold chgOf; rw [hA, hB]) ht
          exact ⟨f1, ⟨_, rfl⟩, f2, f3⟩
        | some w' =>
          have dA : DGet G a (.str y) (some (.str u)) := by
            have := DGet.k (k := Sum.inr y) ea
            rw [valV_fk, hA] at this
            exact this
          have dB : DGet G b (.str y) (some (.str w')) := by
            have := DGet.k (k := Sum.inr y) eb
            rw [valV_fk, hB] at this
            exact this
          refine iteF ⟨_, rfl, _, rfl, a, _, rfl, dA, _, rfl, _, rfl, b, _, rfl, dB, rfl, _, rfl, ite2 (fun e => ?_) (fun e => ?_)⟩
          · refine ⟨_, rfl, .inl ⟨rfl, _, SqL.of el⟩, _, rfl, by show 2 ≤ sizeLine; decide, fun t ht => ⟨l, xs, _, rfl, rfl, (by rw [upd_ne (ne_of_none el ht)]; exact el), (by rw [sizeLine_eq]; omega), ?_⟩⟩
            have ne : u ≠ w' := fun z => by rw [z] at e; simp at e
            obtain ⟨f1, f2, f3⟩ := fin "other" t (by unfold chgOf; rw [hA, hB]; exact if_neg ne) ht
            exact ⟨f1, ⟨_, rfl⟩, f2, f3⟩
          · have eq : u = w' := by
              refine Decidable.byContradiction fun z => e ?_
              simp [z]
            exact ⟨g, ⟨_, rfl⟩, eS, xs, el, no (by unfold chgOf; rw [hA, hB]; exact if_pos eq)⟩
    · intro σ G h
      obtain ⟨g, ⟨v, rfl⟩, eS, xs, el, al⟩ := h
      rw [List.length_map, List.take_length] at al
      refine ⟨_, rfl, l, xs, rfl, .inl ⟨SqL.of el, fun t ht => ?_⟩⟩
      have gt : GoE T [l] G (upd G t (.tup xs)) := go_upd g.2 ht
      exact k1 _ t xs (GoE.news h6 (g.trans gt) fun b hb => by rw [List.mem_singleton.mp hb]; exact fresh_none hl) upd_same (al.imp fun x y h => h.ext gt.t)
end
end Sg
end Text_S5
section Text_S6
set_option Elab.async false
set_option linter.all false
set_option maxRecDepth 100000
set_option maxHeartbeats 4000000
namespace Sg
open PySem PySem.Spec PyProof.Rows L2 Gx GxR
/-- a list or a tuple that stands -/
def Sq (K : PySem.W.Frag) (H : Hp) (a : Addr) (xs : List V) : Prop := SqL K H a xs ∨ SqT K H a xs
theorem GoE.seqT {T : Tb} {S : List Addr} {K : PySem.W.Frag} {H H' : Hp} {a : Addr} {xs : List V} (g : GoE T S H H') (h : SqT K H a xs) (m : a ∉ S := by simp) : SqT K H' a xs := by
  rcases h with h | h
  · rcases h with h | ⟨o, h⟩
    · exact .inl (.inl (g.at h m))
    · exact .inl (.inr ⟨o, g.at h m⟩)
  · exact .inr h
theorem GoE.seqS {T : Tb} {S : List Addr} {K : PySem.W.Frag} {H H' : Hp} {a : Addr} {xs : List V} (g : GoE T S H H') (h : Sq K H a xs) (m : a ∉ S := by simp) : Sq K H' a xs := h.imp (fun q => g.seq q m) fun q => g.seqT q m
/-- J walks over xs while St -/
structure Ov (J : It) (St : Hp → Prop) (xs : List V) : Prop where
  go : ∀ i H, St H → i < xs.length → J.go i H
  yld : ∀ i H x H', St H → i < xs.length → J.yld i H x H' → H' = H ∧ xs[i]? = some x
  stop : ∀ H, St H → J.stop xs.length H
theorem ov_l {K : PySem.W.Frag} {a : Addr} {xs : List V} : Ov (Itl K a) (fun H => SqL K H a xs) xs :=
  ⟨fun i H h hi => ⟨xs, xs[i], h, List.getElem?_eq_getElem hi⟩, fun i H x H' h _ y => by
    obtain ⟨rfl, y⟩ := y
    exact ⟨rfl, y xs h⟩, fun H h => ⟨xs, h, Nat.le_refl _⟩⟩
theorem ov_t {K : PySem.W.Frag} {a : Addr} {xs : List V} : Ov (Itt K a) (fun H => SqT K H a xs) xs :=
  ⟨fun i H h hi => ⟨xs, xs[i], h, List.getElem?_eq_getElem hi⟩, fun i H x H' h _ y => by
    obtain ⟨rfl, y⟩ := y
    exact ⟨rfl, y xs h⟩, fun H h => ⟨xs, h, Nat.le_refl _⟩⟩
/-- over a list or a tuple -/
def SqR (K : PySem.W.Frag) (a : Addr) (xs : List V) (R : It → Hp → Prop) (H1 : Hp) : Prop := (SqL K H1 a xs ∧ R (Itl K a) H1) ∨ (SqT K H1 a xs ∧ R (Itt K a) H1)
def iSq (K : PySem.W.Frag) (tl : TE) : TI := fun σ H R => tl σ H fun x H1 => ∃ a xs, x = .ref a ∧ SqR K a xs R H1
theorem sq_read {K : PySem.W.Frag} {H1 : Hp} {a : Addr} {xs : List V} {R : It → Hp → Prop} (h : Sq K H1 a xs)
    (k : ∀ (J : It) (St : Hp → Prop), St H1 → (∀ (T : Tb) (S : List Addr) (G G' : Hp), GoE T S G G' → (∀ o, H1 a = some o → (∀ ps, o ≠ .tbl ps) → a ∉ S) → St G → St G') → Ov J St xs → R J H1) : SqR K a xs R H1 := by
  rcases h with h | h
  · refine .inl ⟨h, k _ _ h (fun T S G G' g m q => ?_) ov_l⟩
    rcases h with h | h
    · rcases h with h | ⟨o, h⟩
      · exact g.seq q (m _ h (by intro _ z; cases z))
      · exact g.seq q (m _ h (by intro _ z; cases z))
    · exact .inr h
  · refine .inr ⟨h, k _ _ h (fun T S G G' g m q => ?_) ov_t⟩
    rcases h with h | h
    · rcases h with h | ⟨o, h⟩
      · exact g.seqT q (m _ h (by intro _ z; cases z))
      · exact g.seqT q (m _ h (by intro _ z; cases z))
    · exact .inr h
section
variable {X : Cx} {tg : Expr}
theorem pi_sq {l : Expr} {tl : TE} (hl : PE X l tl) : PI X tg l (iSq X.K tl) := by
  refine ⟨fun pins s σ H R I h => ?_⟩
  refine thn (hl.run pins s σ H _ I h) fun v s1 ⟨x, H1, I1, r1, q1⟩ => ?_
  obtain ⟨a, xs, e, q⟩ := q1
  subst e
  cases r1
  rcases q with ⟨hq, q⟩ | ⟨hq, q⟩
  · obtain ⟨its, rv, p, hz⟩ := I1.list hq
    refine wpAny_pyIter_list p.isList ?_
    refine ⟨s1.heap.objs.size, [s1.heap.objs.size], _, _, H1, rfl, I1.kept (t' := s1.toks) fun b o e => Heap.get?_push_of_some _ e, turn_list a _, ⟨_, Heap.get?_push_size _ rfl, rfl, rfl⟩, fun b hb => ?_, q⟩
    have e : b = s1.heap.objs.size := by simpa using hb
    subst e
    exact I1.fpOk (Nat.le_refl _) (I1.hok.fresh (Nat.le_refl _))
  · obtain ⟨its, rv, p, hz⟩ := I1.tuple hq
    refine wpAny_pyIter_tuple (show s1.heap.IsTuple a its.toArray from p) ?_
    refine ⟨s1.heap.objs.size, [s1.heap.objs.size], _, _, H1, rfl, I1.kept (t' := s1.toks) fun b o e => Heap.get?_push_of_some _ e, turn_tuple a _, ⟨_, Heap.get?_push_size _ rfl, rfl, rfl⟩, fun b hb => ?_, q⟩
    have e : b = s1.heap.objs.size := by simpa using hb
    subst e
    exact I1.fpOk (Nat.le_refl _) (I1.hok.fresh (Nat.le_refl _))
/-- o.f = .. as one of several targets -/
def gFld (K : PySem.W.Frag) (ta : TE) (f : Str) : TG := fun y σ H Q => ta σ H fun x H2 => ∃ a C dx fs, x = .ref a ∧ H2 a = some (.ins C dx fs) ∧ Cls K C ∧ NoAttr K C f ∧ fs.length < 1000 ∧ Q σ (upd H2 a (.ins C dx (putF f y fs)))
theorem pg_fld {o : Expr} {f : Str} {pos : Pos} {ta : TE} (ho : PE X o ta) : PG X (.Attribute o f pos) (gFld X.K ta f) := by
  refine ⟨fun pins s σ H v u Q I r h => ?_⟩
  rw [assign_Attribute]
  refine wpAny_bind (wpAny_holding (thn (ho.run pins s σ H _ I h) fun ov s1 ⟨x, H2, I2, rx, a, C, dx, fs, ex, ea, c, n, l, q2⟩ => ?_))
  subst ex
  obtain rfl : ov = Value.ref a := rx
  refine wpAny_bind (wpAny_standAt (wpAny_bind (wpAny_holding ?_)))
  exact setattr_ok I2 ea c n l r fun s3 I3 => wpAny_release ⟨σ, _, I3, q2⟩
end
end Sg
end Text_S6
section Text_S7
set_option Elab.async false
set_option linter.all false
set_option maxRecDepth 100000
set_option maxHeartbeats 4000000
namespace Sg
open PySem PySem.Spec PyProof.Rows L2 Gx GxR
def SqH (K : PySem.W.Frag) (H : Hp) (a : Addr) (xs : List V) : Prop := SqL K H a xs ∨ H a = some (.tup xs)
theorem SqH.sq {K : PySem.W.Frag} {H : Hp} {a : Addr} {xs : List V} (h : SqH K H a xs) : SqL K H a xs ∨ SqT K H a xs := h.imp id SqT.of
theorem SqH.ext {T : Tb} {S : List Addr} {K : PySem.W.Frag} {H H' : Hp} {a : Addr} {xs : List V} (h : SqH K H a xs) (g : GoE T S H H') (m : a ∉ S) : SqH K H' a xs := h.imp (fun q => g.seq q m) fun q => g.t _ _ q
/-- the tuple at l has these items; it is new, or it stood -/
def NewT (H : Hp) (l : Addr) (ys : List V) (H2 : Hp) : Prop := H2 l = some (.tup ys) ∧ (H2 = H ∨ (H l = none ∧ H2 = upd H l (.tup ys)))
theorem NewT.go {T : Tb} {S : List Addr} {H H2 : Hp} {l : Addr} {ys : List V} (n : NewT H l ys H2) (tk : TOk T H) : GoE T S H H2 := by
  rcases n.2 with e | ⟨e1, e2⟩
  · rw [e]; exact GoE.refl tk
  · rw [e2]; exact go_upd tk e1
def tTupV (K : PySem.W.Frag) (i : Nat) : TE := fun σ H Q => ∃ p ys, σ[i]? = some (some (.ref p)) ∧ SqH K H p ys ∧ ∀ l H2, NewT H l ys H2 → Q (.ref l) H2
theorem pe_tupV {X : Cx} {i : Nat} {p1 p2 p3 : Pos} {x : Str} (hm : X.mg "tuple" = none) (hg : Gl X "tuple") (hv : PE X (.Name x p2) (tVar i)) : PE X (.Call (.Name "tuple" p1) [.Name x p2] [] p3) (tTupV X.K i) := by
  refine ⟨fun pins s σ H Q I h => ?_⟩
  obtain ⟨p, ys, e, hs, k⟩ := h
  refine (pe_callTy call_tuple_of hg hm (by decide +kernel) (pa_cons hv pa_nil)).run pins s σ H Q I ⟨_, e, p, ys, rfl, ?_⟩
  rcases hs with hs | hs
  · exact .inl ⟨hs, fun l hl => k l _ ⟨upd_same, .inr ⟨hl, rfl⟩⟩⟩
  · exact .inr ⟨SqT.of hs, k p H ⟨hs, .inl rfl⟩⟩
theorem pe_tupVK {X : Cx} (K : PySem.W.Frag) (hK : X.K = K) {i : Nat} {p1 p2 p3 : Pos} {x : Str} (hm : X.mg "tuple" = none) (hg : Gl X "tuple") (hv : PE X (.Name x p2) (tVar i)) : PE X (.Call (.Name "tuple" p1) [.Name x p2] [] p3) (tTupV K i) := by
  rw [← hK]
  exact pe_tupV hm hg hv
theorem pg_tupK {X : Cx} (K : PySem.W.Frag) (n : Nat) (hK : X.K = K) {es : List Expr} {k : Nat} {pos : Pos} {t : TGs} (hc : X.calm = true) (h : PGs X es t) (hn : (assignEach es X.env).length = n := by rfl) (hst : (assignEach es X.env).findIdx? (·.1) = none := by rfl) :
    PG X (.Tuple es k pos) (gTup K n t) := by
  rw [← hK]
  exact pg_tup hc h hn hst
theorem op_in_seqK {X : Cx} (K : PySem.W.Frag) (hK : X.K = K) : OpR X (compareOp .In) (rIn K false) := by
  rw [← hK]
  exact op_in_seq
theorem op_notIn_seqK {X : Cx} (K : PySem.W.Frag) (hK : X.K = K) : OpR X (compareOp .NotIn) (rIn K true) := by
  rw [← hK]
  exact op_notIn_seq
theorem inV_str (x : Str) : ∀ xs : List Str, inV (.str x) (xs.map V.str) = decide (x ∈ xs)
  | [] => rfl
  | y :: r => by
    show ((y == x) || inV (.str x) (r.map V.str)) = _
    rw [inV_str x r, Bool.eq_iff_iff, Bool.or_eq_true, beq_iff_eq, decide_eq_true_iff, decide_eq_true_iff, List.mem_cons]
    exact ⟨fun h => h.imp (fun e => e.symm) id, fun h => h.imp (fun e => e.symm) id⟩
theorem flat_strs : ∀ xs : List Str, (xs.map V.str).all flatV = true
  | [] => rfl
  | _ :: r => flat_strs r
section
variable {X : Cx} {tg : Expr}
theorem pi_tupK (K : PySem.W.Frag) (hK : X.K = K) {l : Expr} {tl : TE} (hl : PE X l tl) : PI X tg l (iTup K tl) := by
  rw [← hK]
  exact pi_tup hl
theorem pi_listK (K : PySem.W.Frag) (hK : X.K = K) {l : Expr} {tl : TE} (hl : PE X l tl) : PI X tg l (iList K tl) := by
  rw [← hK]
  exact pi_list hl
theorem call_len_seqK (K : PySem.W.Frag) (hK : X.K = K) : CallR X (.builtin "len") (fun xs H Q => ∃ p ys, xs = [.ref p] ∧ (SqL K H p ys ∨ SqT K H p ys) ∧ Q (.int ys.length) H) := by
  rw [← hK]
  exact call_len_seq
theorem op_catAK (K : PySem.W.Frag) (hK : X.K = K) : OpR X (binaryOp .Add) (rCatA K) := by
  rw [← hK]
  exact op_catA
end
def Pl : Nat → PyData → Bool
  | _, .none => true
  | _, .int _ => true
  | _, .str x => PyData.strOk x
  | n + 1, .list xs => xs.all (Pl n)
  | n + 1, .tuple xs => xs.all (Pl n)
  | _, _ => false
theorem pl_all {n : Nat} {p : PyData → Bool} (ih : ∀ d, Pl n d = true → d.canLay0 = true ∧ d.depth ≤ n) : ∀ ds : List PyData, ds.all (Pl n) = true → PyData.canLayAll0 ds = true ∧ PyData.depthAll ds ≤ n
  | [], _ => ⟨rfl, Nat.zero_le _⟩
  | d :: r, h => by
    rw [List.all_cons, Bool.and_eq_true] at h
    obtain ⟨a, b⟩ := ih d h.1
    obtain ⟨c, e⟩ := pl_all (p := p) ih r h.2
    refine ⟨?_, ?_⟩
    · show (PyData.canLay0 d && PyData.canLayAll0 r) = true
      rw [a, c]
      rfl
    · show max (PyData.depth d) (PyData.depthAll r) ≤ n
      omega
theorem pl_lay : ∀ (n : Nat) (d : PyData), Pl n d = true → d.canLay0 = true ∧ d.depth ≤ n
  | n, .none, _ => ⟨rfl, Nat.zero_le _⟩
  | n, .int _, _ => ⟨rfl, Nat.zero_le _⟩
  | n, .str x, h => ⟨by cases n <;> exact h, Nat.zero_le _⟩
  | n + 1, .list xs, h => by
    obtain ⟨a, b⟩ := pl_all (p := Pl n) (pl_lay n) xs h
    exact ⟨a, Nat.succ_le_succ b⟩
  | n + 1, .tuple xs, h => by
    obtain ⟨a, b⟩ := pl_all (p := Pl n) (pl_lay n) xs h
    exact ⟨a, Nat.succ_le_succ b⟩
  | 0, .list _, h => by cases h
  | 0, .tuple _, h => by cases h
  | n, .bool _, h => by cases n <;> cases h
  | n, .dict _, h => by cases n <;> cases h
theorem pl_shaped {n : Nat} {d : PyData} (h : Pl n d = true) (hn : n ≤ 64) : SeqAt.shaped d = true := by
  obtain ⟨a, b⟩ := pl_lay n d h
  show (PyData.canLay0 d && decide (PyData.depth d ≤ 64)) = true
  rw [a, decide_eq_true (Nat.le_trans b hn)]
  rfl
theorem pl_eqvs {n : Nat} (ih : ∀ d e, Pl n d = true → Pl n e = true → (PyData.eqv d e = true ↔ d = e)) : ∀ ds es : List PyData, ds.all (Pl n) = true → es.all (Pl n) = true → (PyData.eqvAll ds es = true ↔ ds = es)
  | [], [], _, _ => ⟨fun _ => rfl, fun _ => rfl⟩
  | [], _ :: _, _, _ => ⟨fun h => (by cases h), fun h => (by cases h)⟩
  | _ :: _, [], _, _ => ⟨fun h => (by cases h), fun h => (by cases h)⟩
  | d :: r, e :: s, h, k => by
    rw [List.all_cons, Bool.and_eq_true] at h k
    show ((PyData.eqv d e && PyData.eqvAll r s) = true) ↔ _
    rw [Bool.and_eq_true, ih d e h.1 k.1, pl_eqvs ih r s h.2 k.2, List.cons.injEq]
theorem pl_eqv : ∀ (n : Nat) (d e : PyData), Pl n d = true → Pl n e = true → (PyData.eqv d e = true ↔ d = e)
  | n, d, e, h, k => by
    cases d with
    | none => cases e <;> first | exact ⟨fun _ => rfl, fun _ => rfl⟩ | exact ⟨fun z => (by cases z), fun z => (by cases z)⟩
    | bool b => cases n <;> cases h
    | int i =>
      cases e with
      | int j =>
        show ((i == j) = true) ↔ _
        rw [beq_iff_eq, PyData.int.injEq]
      | bool b => cases n <;> cases k
      | _ => exact ⟨fun z => (by cases z), fun z => (by cases z)⟩
    | str x =>
      cases e with
      | str y =>
        show ((x == y) = true) ↔ _
        rw [beq_iff_eq, PyData.str.injEq]
      | _ => exact ⟨fun z => (by cases z), fun z => (by cases z)⟩
    | list xs =>
      cases n with
      | zero => cases h
      | succ n =>
        cases e with
        | list ys =>
          show (PyData.eqvAll xs ys = true) ↔ _
          rw [pl_eqvs (pl_eqv n) xs ys h k, PyData.list.injEq]
        | _ => exact ⟨fun z => (by cases z), fun z => (by cases z)⟩
    | tuple xs =>
      cases n with
      | zero => cases h
      | succ n =>
        cases e with
        | tuple ys =>
          show (PyData.eqvAll xs ys = true) ↔ _
          rw [pl_eqvs (pl_eqv n) xs ys h k, PyData.tuple.injEq]
        | _ => exact ⟨fun z => (by cases z), fun z => (by cases z)⟩
    | dict _ => cases n <;> cases h
theorem dp_map {α : Type} {K : PySem.W.Frag} {H : Hp} {f : α → V} {g : α → PyData} : ∀ l : List α, (∀ a ∈ l, Dp K H (f a) (g a)) → DpAll K H (l.map f) (l.map g)
  | [], _ => .nil
  | a :: r, h => .cons (h a (List.mem_cons_self ..)) (dp_map r fun b hb => h b (List.mem_cons_of_mem _ hb))
theorem dp_strs {K : PySem.W.Frag} {H : Hp} (xs : List Str) : DpAll K H (xs.map V.str) (xs.map PyData.str) := dp_map xs fun a _ => .str a
theorem dp_all2 {β : Type} {K : PySem.W.Frag} {H : Hp} {F : V → β → Prop} {g : β → PyData} (h : ∀ x y, F x y → Dp K H x (g y)) : ∀ (xs : List V) (ys : List β), All2 F xs ys → DpAll K H xs (ys.map g)
  | [], [], _ => .nil
  | [], _ :: _, a => by cases a.1
  | _ :: _, [], a => by cases a.1
  | x :: xs, y :: ys, a => .cons (h x y (a.2 0 x y rfl rfl)) (dp_all2 h xs ys ⟨by have := a.1; simpa using this, fun i u v h1 h2 => a.2 (i + 1) u v (by simpa using h1) (by simpa using h2)⟩)
def okS (x : Str) : Prop := PyData.strOk x = true
theorem pl_strs {n : Nat} {xs : List Str} (h : ∀ x ∈ xs, okS x) : (xs.map PyData.str).all (Pl n) = true := by
  rw [List.all_eq_true]
  intro d hd
  obtain ⟨x, hx, rfl⟩ := List.mem_map.mp hd
  cases n <;> exact h x hx
/-- the table of check_path's own code objects grows -/
theorem TOk.wx {T : Tb} {S : List Addr} {H H' : Hp} (t : TOk T H) (h : TabN H' T.w [T.p, T.m]) (k : ∀ b o, H b = some o → b ≠ T.w → H' b = some o) : GoE T S H H' := by
  have one : ∀ a, a ≠ T.w → TabG H a → TabG H' a := fun a n ⟨ps, e, q⟩ => ⟨ps, k _ _ e n, q⟩
  have nw : ∀ b o, H b = some o → (∀ ps, o ≠ .tbl ps) → b ≠ T.w := fun b o e n => TabG.not t.w.tab e n
  have oneS : ∀ a q, a ≠ T.w → LamX.TabS H a q → LamX.TabS H' a q := fun a q n ⟨ps, e, h1, h2⟩ => ⟨ps, k _ _ e n, h1, fun pos cv hc => by
    obtain ⟨c, e1, e2⟩ := h2 pos cv hc
    exact ⟨c, e1, k _ _ e2 (nw _ _ e2 LamX.codeO_ne)⟩⟩
  have z : ∀ a, a ∈ [T.cf, T.f, T.lo, T.le, T.iw, T.st, T.p, T.m] → a ≠ T.w := fun a m e => t.nw (e ▸ m)
  exact ⟨fun b o e n _ => k b o e (nw b o e n), one _ (z _ (by simp)) t.cf, one _ (z _ (by simp)) t.f, one _ (z _ (by simp)) t.lo, one _ (z _ (by simp)) t.le, one _ (z _ (by simp)) t.iw, one _ (z _ (by simp)) t.st, h, oneS _ _ (z _ (by simp)) t.p, oneS _ _ (z _ (by simp)) t.m, t.nw, t.np, t.nm⟩
/-- another table grows -/
theorem TOk.gx {T : Tb} {S : List Addr} {H H' : Hp} {P : Addr} (t : TOk T H) (nw : P ≠ T.w) (nl : P ∉ [T.p, T.m]) (hP : TabG H P) (tb : Tabbed P H H') : GoE T S H H' :=
  tabbed_go t nw (fun e => nl (by simp [e])) (fun e => nl (by simp [e])) hP tb
theorem TOk.pre {T : Tb} {G : Hp} (t : TOk T G) : TabN G T.w [T.p, T.m] ∧ ∀ b ∈ [T.p, T.m], ∃ o, G b = some o := ⟨t.w, fun b hb => by
  rcases List.mem_cons.mp hb with e | hb
  · obtain ⟨ps, e2, _⟩ := t.p
    exact ⟨_, by rw [e]; exact e2⟩
  · obtain ⟨ps, e2, _⟩ := t.m
    exact ⟨_, by rw [List.mem_singleton.mp hb]; exact e2⟩⟩
/-- any over texts, the test a Bool function of the text that may make things -/
theorem any_go {T : Tb} {S : List Addr} {J : It} {St : Hp → Prop} {xs : List Str} {i : Nat} {te : TE} {σ : L2.St} {Q : VK} {G0 : Hp} (ov : Ov J St (xs.map V.str)) (hSt : ∀ G, GoE T S G0 G → St G) (tk : TOk T G0) (pb : Str → Bool)
    (hte : ∀ x ∈ xs, ∀ (G : Hp) (Q' : VK), GoE T S G0 G → (∀ G', GoE T S G G' → Q' (.bl (pb x)) G') → te ((wipe σ [i]).set i (some (.str x))) G Q') (h : ∀ G, GoE T S G0 G → Q (.bl (xs.any pb)) G) :
    ∃ W : Nat → Nat → Hp → Prop, (∃ m, W 0 m G0) ∧ TurnG J (gName i) tYes te [i] (wipe σ [i]) Q false W := by
  have hle : (xs.map V.str).length = xs.length := List.length_map _
  refine turns_of xs.length (fun j G => GoE T S G0 G ∧ ∀ x ∈ xs.take j, pb x = false) ⟨GoE.refl tk, fun x hx => by simp at hx⟩ (fun G p => ⟨?_, ?_⟩) fun j G hj p => ⟨ov.go j G (hSt G p.1) (by rw [hle]; exact hj), fun x G2 y => ?_⟩
  · have := ov.stop G (hSt G p.1)
    rw [hle] at this
    exact this
  · have e : xs.any pb = false := by
      rw [List.any_eq_false]
      intro c hc
      have := p.2 c (by rw [List.take_length]; exact hc)
      simp [this]
    have q := h G p.1
    rw [e] at q
    exact q
  · obtain ⟨rfl, hx⟩ := ov.yld j G x G2 (hSt G p.1) (by rw [hle]; exact hj) y
    obtain ⟨z, hz, rfl⟩ := str_at hx
    refine ⟨wipe_one, hte z (List.mem_of_getElem? hz) _ _ p.1 fun G' g' => ⟨_, rfl, ?_⟩⟩
    have gg := p.1.trans g'
    cases hb : pb z with
    | true =>
      refine iteF' (by decide) ?_
      have e : xs.any pb = true := List.any_eq_true.mpr ⟨z, List.mem_of_getElem? hz, hb⟩
      have q := h G' gg
      rw [e] at q
      exact q
    | false =>
      refine (if_pos rfl).mpr ⟨gg, fun x hx => ?_⟩
      rw [take_snoc hz] at hx
      rcases List.mem_append.mp hx with m | m
      · exact p.2 x m
      · rw [List.mem_singleton.mp m]; exact hb
/-- [(x, 1) for x in ..] of texts -/
theorem lc_pairs {T : Tb} {J : It} {St : Hp → Prop} {xs : List Str} {i : Nat} {te : TE} {σ : L2.St} {H1 : Hp} {D : Addr} {Qd : Hp → Prop} (ov : Ov J St (xs.map V.str)) (tk : TOk T H1) (hD : H1 D = none) (hst : ∀ G, GoE T [D] (upd H1 D (.lst [])) G → St G) (hl : xs.length ≤ 1000)
    (hte : ∀ (x : Str) (G : Hp) (Q' : VK), (∀ p, G p = none → Q' (.ref p) (upd G p (.tup [.str x, .int 1]))) → te ((wipe σ [i]).set i (some (.str x))) G Q')
    (h : ∀ G ps, GoE T [D] (upd H1 D (.lst [])) G → G D = some (.lst (ps.map V.ref)) → All2 (fun p (x : Str) => G p = some (.tup [.str x, .int 1])) ps xs → Qd G) :
    ∃ W : Nat → Nat → Hp → Prop, (∃ m, W 0 m (upd H1 D (.lst []))) ∧ ∀ j m H, W j m H →
      (J.stop j H ∧ Qd H) ∨ (J.go j H ∧ ∃ Nx : Hp → Prop, (∀ H', Nx H' → ∃ m', m' < m ∧ W (j + 1) m' H') ∧ ∀ x H', J.yld j H x H' → gName i x (wipe σ [i]) H' fun σ2 H2 => wipe σ2 [i] = wipe σ [i] ∧ tYes σ2 H2 fun b H3 =>
        if b = true then te σ2 H3 fun y H4 => ∃ acc, H4 D = some (.lst acc) ∧ acc.length < sizeLine ∧ Nx (upd H4 D (.lst (acc ++ [y]))) else Nx H3) := by
  have hle : (xs.map V.str).length = xs.length := List.length_map _
  refine ⟨fun j m G => j + m = xs.length ∧ GoE T [D] (upd H1 D (.lst [])) G ∧ ∃ ps, G D = some (.lst (ps.map V.ref)) ∧ All2 (fun p (x : Str) => G p = some (.tup [.str x, .int 1])) ps (xs.take j), ⟨xs.length, Nat.zero_add _, GoE.refl (go_upd (S := [D]) tk hD).2, [], upd_same, All2.nil⟩, fun j m G w => ?_⟩
  obtain ⟨e, g, ps, eD, al⟩ := w
  rcases Nat.lt_or_ge j xs.length with hj | hj
  · refine .inr ⟨ov.go j _ (hst _ g) (by rw [hle]; exact hj), fun G => GoE T [D] (upd H1 D (.lst [])) G ∧ ∃ ps, G D = some (.lst (ps.map V.ref)) ∧ All2 (fun p (x : Str) => G p = some (.tup [.str x, .int 1])) ps (xs.take (j + 1)), fun G' q => ⟨m - 1, by omega, by omega, q⟩, fun x G' yy => ?_⟩
    obtain ⟨rfl, hx⟩ := ov.yld j _ x G' (hst _ g) (by rw [hle]; exact hj) yy
    clear yy
    obtain ⟨y, hy, rfl⟩ := str_at hx
    refine ⟨wipe_one, hte y _ _ fun p hp => ?_⟩
    have w1 : GoE T [D] G' (upd G' p (.tup [.str y, .int 1])) := go_upd g.2 hp
    have eD1 : upd G' p (.tup [.str y, .int 1]) D = some (.lst (ps.map V.ref)) := by rw [upd_ne (ne_of_none eD hp)]; exact eD
    have w2 : GoE T [D] (upd G' p (.tup [.str y, .int 1])) (upd (upd G' p (.tup [.str y, .int 1])) D (.lst (ps.map V.ref ++ [.ref p]))) := go_set w1.2 eD1 mu_lst (by simp)
    refine ⟨_, eD1, ?_, (g.trans w1).trans w2, ps ++ [p], ?_, ?_⟩
    · rw [List.length_map, al.1, sizeLine_eq, List.length_take]
      omega
    · rw [upd_same, List.map_append]
      rfl
    · rw [take_snoc hy]
      exact (al.imp fun q x e => (w1.trans w2).t _ _ e).snoc (w2.t _ _ upd_same)
  · have e2 : j = xs.length := by omega
    subst e2
    refine .inl ⟨?_, h G ps g eD ?_⟩
    · have := ov.stop G (hst _ g)
      rw [hle] at this
      exact this
    · rw [List.take_length] at al
      exact al
theorem paired_of {α β : Type} {F : α → β → Prop} : ∀ {xs : List α} {ys : List β}, All2 F xs ys → Paired F xs ys
  | [], [], _ => .nil
  | [], _ :: _, a => by cases a.1
  | _ :: _, [], a => by cases a.1
  | x :: xs, y :: ys, a => .cons (a.2 0 x y rfl rfl) (paired_of ⟨by have := a.1; simpa using this, fun i u v h1 h2 => a.2 (i + 1) u v (by simpa using h1) (by simpa using h2)⟩)
theorem merge_keys (v : V) (xs : List Str) : mergeK [] (xs.map fun x => ((Sum.inr x : Key), v)) = keyTab v (uniq xs) := by
  have : ∀ (xs u : List Str), mergeK (keyTab v u) (xs.map fun x => ((Sum.inr x : Key), v)) = keyTab v (xs.foldl (fun l x => if x ∈ l then l else l ++ [x]) u) := by
    intro xs
    induction xs with
    | nil => exact fun _ => rfl
    | cons x xs ih =>
      intro u
      show mergeK (putK (keyTab v u) (Sum.inr x) v) _ = _
      rw [put_key, ih]
      rfl
  exact this xs []
/-- pairs of such a list -/
theorem dict_paired {K : PySem.W.Frag} {G : Hp} {ps : List Addr} {xs : List Str} (al : All2 (fun p (x : Str) => G p = some (.tup [.str x, .int 1])) ps xs) : Paired (fun p (kv : Key × V) => SqT K G p [kV kv.1, kv.2]) ps (xs.map fun x => ((Sum.inr x : Key), V.int 1)) :=
  paired_of ⟨by rw [List.length_map]; exact al.1, fun i p kv h1 h2 => by
    rw [List.getElem?_map] at h2
    cases e : xs[i]? with
    | none => rw [e] at h2; cases h2
    | some x =>
      rw [e] at h2
      obtain rfl := Option.some.inj h2
      exact SqT.of (al.2 i p x h1 e)⟩
theorem merge_fk {A : Files} (h : (A.map (·.1)).Nodup) : mergeK [] (fk A) = fk A := by
  have : ∀ (A B : Files), ((B ++ A).map (·.1)).Nodup → mergeK (fk B) (fk A) = fk (B ++ A) := by
    intro A
    induction A with
    | nil => intro B _; rw [List.append_nil]; rfl
    | cons q A ih =>
      intro B hn
      have hq : (Sum.inr q.1 : Key) ∉ (fk B).map (·.1) := fun hm => by
        unfold fk at hm
        rw [List.map_map] at hm
        obtain ⟨r, hr, e⟩ := List.mem_map.mp hm
        have e : r.1 = q.1 := Sum.inr.inj e
        rw [List.map_append, List.map_cons] at hn
        exact (List.nodup_append.mp hn).2.2 r.1 (List.mem_map.mpr ⟨r, hr, rfl⟩) q.1 List.mem_cons_self e
      show mergeK (putK (fk B) (Sum.inr q.1) (.str q.2)) (fk A) = _
      rw [put_new _ _ _ hq]
      have := ih (B ++ [q]) (by rw [List.append_assoc]; exact hn)
      rw [List.append_assoc] at this
      rw [← show fk (B ++ [q]) = fk B ++ [((Sum.inr q.1 : Key), V.str q.2)] by unfold fk; rw [List.map_append]; rfl]
      exact this
  exact this A [] h
theorem op_neDK {X : Cx} (K : PySem.W.Frag) (hK : X.K = K) (hu : X.A.units + 64 < cLine) : OpR X (compareOp .NotEq) (rNeD K) := by
  rw [← hK]
  exact op_neD hu
theorem op_eqDK {X : Cx} (K : PySem.W.Frag) (hK : X.K = K) (hu : X.A.units + 64 < cLine) : OpR X (compareOp .Eq) (rEqD K) := by
  rw [← hK]
  exact op_eqD hu
theorem call_tuple_ofK {X : Cx} (K : PySem.W.Frag) (hK : X.K = K) : CallR X (.type "tuple") (fun xs H Q => ∃ p ys, xs = [.ref p] ∧ ((SqL K H p ys ∧ ∀ l, H l = none → Q (.ref l) (upd H l (.tup ys))) ∨ (SqT K H p ys ∧ Q (.ref p) H))) := by
  rw [← hK]
  exact call_tuple_of
theorem call_list_ofK {X : Cx} (K : PySem.W.Frag) (hK : X.K = K) : CallR X (.type "list") (fun xs H Q => ∃ p ys, xs = [.ref p] ∧ (SqL K H p ys ∨ SqT K H p ys) ∧ ∀ l, H l = none → Q (.ref l) (upd H l (.lst ys))) := by
  rw [← hK]
  exact call_list_of
/-- what the walked texts leave of a list, by a test -/
theorem filter_snoc {xs : List Str} {pb : Str → Bool} {j : Nat} {y : Str} (h : xs[j]? = some y) : (xs.take (j + 1)).filter pb = (xs.take j).filter pb ++ (if pb y = true then [y] else []) := by
  rw [take_snoc h, List.filter_append]
  congr 1
  by_cases z : pb y = true
  · rw [if_pos z]; simp [z]
  · rw [if_neg z]; simp [z]
end Sg
end Text_S7
section Text_S8
set_option Elab.async false
set_option linter.all false
set_option maxRecDepth 100000
set_option maxHeartbeats 4000000
namespace Sg
open PySem PySem.Spec PyProof.Rows L2 Gx GxR
/-! check_path -/
def noE : Expr := .Constant .none 0 ⟨0, 0, 0, 0⟩
def ifT : Stmt → Expr
  | .If t _ _ _ => t
  | _ => noE
def retE : Stmt → Expr
  | .Return (some e) _ => e
  | _ => noE
/-- the scope of the generator expression that is handed over -/
def genSc : Expr → Scope
  | .Call _ [.GeneratorExp _ _ sc _] _ _ => sc
  | _ => defScope sPath
def badN (n : Str) : Bool := decide (n ∈ (["", ".", ".."] : List Str)) || n.cps.toList.any fun c => decide (c ∈ (" \n" : Str).cps.toList)
def badP (p : Str) : Bool := (Txt.split p "/").any badN
def spPath (T : Tb) (CP : Addr) : Sp := fun vs H Q E => ∃ p, vs = [.str p] ∧ p.cps.toList.length ≤ 1000 ∧ TOk T H ∧ (badP p = true → ∀ H', Go T H H' → E (.ref CP) none H') ∧ (badP p = false → ∀ H', Go T H H' → Q .non H')
abbrev NPa : List Str := ["path", "name", "sign"]
section
variable {P : Program} {w : World} {K : PySem.W.Frag} {mg : Str → Option Value} {base : Heap} {T : Tb} {CP CG CS : Addr}
theorem scPa : FnScope NPa ["path"] (defScope sPath) := ⟨rfl, rfl, rfl, by decide +kernel, rfl, by decide +kernel, by decide +kernel⟩
theorem ok_path {f c : Addr} {fd : FuncData} (F : FunC K "check_path" "check_path" sPath f c fd) (X : Er K mg CP CG CS) (Y : Tx K mg) (bw : TabB base mg c T.w) : FnOk P w K mg base (L2.CX P w) 3 f fd ["path"] (spPath T CP) := by
  refine F.okX scPa (fun vs H Q E h => ?_) (fun A0 outer s H vs Q E hr h => ?_)
  · obtain ⟨p, rfl, _⟩ := h
    rfl
  · obtain ⟨p, rfl, hp, tk, k1, k2⟩ := h
    refine ⟨_, pss_one (ps_if (pt_val (pe_anyC (own := [("name", 1)]) (k := 1) hr rfl Y.any ⟨_, bw.bm⟩ (mkC_tabN (L := [T.p, T.m]) bw rfl) scPa.nd (gOkC_by (N := NPa) (sc := defScope sPath) (by decide +kernel)) (pi_list (pe_split (pv 0) pe_str))
          ⟨fun _ _ _ _ _ _ _ _ => pg_name (i := 1) scPa.nd rfl (Or.inl rfl) (Or.inr rfl), fun _ _ _ _ _ _ _ _ => pts_nil, fun _ _ _ _ _ _ _ hr' => pe_or (pe_cmpR (op_in_seqK K rfl) (pv 1) (pe_tup (pa_cons pe_str (pa_cons pe_str (pa_cons pe_str pa_nil)))) (by rfl))
            (pe_one (pe_anyC (own := [("sign", 2)]) (k := 0) hr' rfl Y.any ⟨_, bw.bm⟩ (mkC_dyn rfl) scPa.nd (gOkC_by (N := NPa) (sc := genSc (ifT ((defBody sPath).getD 0 noS))) (by decide +kernel)) (pi_str (pv 1))
              ⟨fun _ _ _ _ _ _ _ _ => pg_name (i := 2) scPa.nd rfl (Or.inl rfl) (Or.inr rfl), fun _ _ _ _ _ _ _ _ => pts_nil, fun _ _ _ _ _ _ _ _ => pe_cmpR op_in_sign (pv 2) pe_str (by rfl)⟩))⟩))
        (pss_one (ps_raise rfl (takes_of rfl rfl rfl rfl) (pmk_own PySem.F.excBase_ValueError X.P.x X.P.g X.P.k (raises_own X.P.b X.P.t) rfl))) pss_nil), ?_⟩
    have ht : (p.length : Nat) ≤ 1000 := by rw [← tl_len]; exact hp
    refine ⟨_, rfl, ⟨p, rfl⟩, p, _, rfl, rfl, by decide +kernel, by rw [sizeLine_eq]; omega, fun L hL => ⟨L, rfl, ⟨_, SqL.of upd_same⟩, ?_⟩⟩
    have w1 : Go T H (upd H L (.lst ((Txt.split p "/").map V.str))) := go_upd tk hL
    have eL : upd H L (.lst ((Txt.split p "/").map V.str)) L = some (.lst ((Txt.split p "/").map V.str)) := upd_same
    generalize upd H L (.lst ((Txt.split p "/").map V.str)) = H1 at w1 eL ⊢
    refine ⟨w1.2.pre, fun H2 cd post => ?_⟩
    obtain ⟨⟨tN, kp⟩, c', P', rfl, ec, tP, nPw, nPl⟩ := post
    have w2 : Go T H1 H2 := w1.2.wx tN kp
    have w12 := w1.trans w2
    have eL2 := w2.at eL
    generalize hxs : Txt.split p "/" = xs at eL eL2
    have hle : (xs.map V.str).length = xs.length := List.length_map _
    refine turns_of xs.length (fun i G => (Go T H2 G ∧ TabG G P') ∧ ∀ n ∈ xs.take i, badN n = false) ⟨⟨GoE.refl w2.2, tP⟩, fun n hn => by simp at hn⟩ (fun G h => ⟨⟨_, SqL.of (h.1.1.at eL2), by rw [hle]; exact Nat.le_refl _⟩, ?_⟩) (fun i G hi h => ⟨⟨_, .str xs[i], SqL.of (h.1.1.at eL2), by rw [List.getElem?_map, List.getElem?_eq_getElem hi]; rfl⟩, fun x G' y => ?_⟩)
    · have e : badP p = false := by
        unfold badP
        rw [hxs, List.any_eq_false]
        intro n hn
        have := h.2 n (by rw [List.take_length]; exact hn)
        simp [this]
      exact ⟨false, rfl, iteF' (by decide) (k2 e _ (w12.trans h.1.1))⟩
    · obtain ⟨rfl, y⟩ := y
      have hx := y _ (SqL.of (h.1.1.at eL2))
      obtain ⟨n, hn, rfl⟩ := str_at hx
      have yes : badN n = true → ∀ G2, Go T G' G2 → E (.ref CP) none G2 := fun hb G2 g2 => by
        refine k1 ?_ _ ((w12.trans h.1.1).trans g2)
        unfold badP
        rw [hxs]
        exact List.any_eq_true.mpr ⟨n, List.mem_of_getElem? hn, hb⟩
      refine ⟨wipe_one, _, rfl, by show 3 ≤ sizeLine; decide, fun t ht => ⟨t, _, rfl, .inr (SqT.of upd_same), rfl, rfl, _, rfl, ?_⟩⟩
      have w3 : Go T G' (upd G' t (.tup [.str "", .str ".", .str ".."])) := go_upd h.1.1.2 ht
      have tP3 : TabG (upd G' t (.tup [.str "", .str ".", .str ".."])) P' := by
        obtain ⟨ps, e1, e2⟩ := h.1.2
        exact ⟨ps, by rw [upd_ne (ne_of_none e1 ht)]; exact e1, e2⟩
      have inv := inV_str n ["", ".", ".."]
      have inv : inV (V.str n) [V.str "", V.str ".", V.str ".."] = decide (n ∈ (["", ".", ".."] : List Str)) := inv
      generalize upd G' t (.tup [.str "", .str ".", .str ".."]) = G3 at w3 tP3 ⊢
      rw [if_neg Bool.false_ne_true, inv]
      refine orR (fun e => ⟨true, rfl, iteF' (by decide) ⟨true, rfl, (if_pos rfl).mpr (yes (by unfold badN; rw [e]; rfl) _ w3)⟩⟩) (fun e => ?_)
      have ec3 := (h.1.1.trans w3).1 _ _ ec codeG_ne (.inl (by simp))
      refine ⟨_, rfl, n, rfl, ⟨c', P', rfl, ec3, tP3⟩, fun H6 cd6 post6 => ?_⟩
      have tb6 := post6 c' P' rfl ec3
      have w6 : Go T G3 H6 := w3.2.gx nPw nPl tP3 tb6
      refine any_text (fun c => decide (c ∈ (" \n" : Str).cps.toList)) (fun c Q' q => ⟨_, rfl, c, _, rfl, rfl, q⟩) ⟨_, rfl, ?_⟩
      have eb : badN n = n.cps.toList.any fun c => decide (c ∈ (" \n" : Str).cps.toList) := by unfold badN; rw [e, Bool.false_or]
      rw [← eb]
      cases hb : badN n with
      | true => exact iteF' (by decide) ⟨true, rfl, (if_pos rfl).mpr (yes hb _ (w3.trans w6))⟩
      | false =>
        refine (if_pos rfl).mpr ⟨⟨(h.1.1.trans w3).trans w6, tb6.1⟩, fun q hq => ?_⟩
        rw [take_snoc hn] at hq
        rcases List.mem_append.mp hq with z | z
        · exact h.2 q z
        · rw [List.mem_singleton.mp z]; exact hb
end
end Sg
end Text_S8
section Text_S9
set_option Elab.async false
set_option linter.all false
set_option maxRecDepth 100000
set_option maxHeartbeats 4000000
namespace Sg
open PySem PySem.Spec PyProof.Rows L2 Gx GxR
/-! over the keys of a dict of files; lists made of what a walk over texts leaves -/
theorem ExtT.refl {H : Hp} : ExtT H H := fun _ _ e => e
theorem ExtT.trans {H H1 H2 : Hp} (a : ExtT H H1) (b : ExtT H1 H2) : ExtT H H2 := fun c xs e => b c xs (a c xs e)
def keysF (A : Files) : List Str := A.map (·.1)
theorem fk_keys (A : Files) : (fk A).map (fun p => kV p.1) = (keysF A).map V.str := by
  unfold fk keysF
  rw [List.map_map, List.map_map]
  rfl
theorem fk_get {A : Files} {i : Nat} {k : Key} {v : V} (h : (fk A)[i]? = some (k, v)) : ((keysF A).map V.str)[i]? = some (kV k) := by
  rw [← fk_keys, List.getElem?_map, h]
  rfl
theorem ovk {d : Addr} {o : Obj} {A : Files} : Ov (Itk d o (fk A)) (fun H => H d = some (.frz o (.dK (fk A)))) ((keysF A).map V.str) :=
  have e : ((keysF A).map V.str).length = (fk A).length := by rw [← fk_keys, List.length_map]
  ⟨fun i H h hi => ⟨h, by rw [← e]; exact hi⟩, fun i H x H' h _ y => by
    obtain ⟨rfl, k, v, e1, rfl⟩ := y
    exact ⟨rfl, fk_get e1⟩, fun H h => ⟨h, by rw [e]; exact Nat.le_refl _⟩⟩
theorem mu_frz {od : Obj} {u : HO} : (∀ ps, HO.frz od u ≠ .tbl ps) ∧ (∀ φ, HO.frz od u ≠ .ext φ) ∧ ∀ ys, HO.frz od u ≠ .tup ys := ⟨(by intro _ z; cases z), (by intro _ z; cases z), (by intro _ z; cases z)⟩
theorem go_back {T : Tb} {H G : Hp} {d : Addr} {u v : HO} (tk : TOk T H) (e : H d = some u) (g : GoE T [d] H G) (e2 : G d = some v) (mv : (∀ ps, v ≠ .tbl ps) ∧ (∀ φ, v ≠ .ext φ) ∧ ∀ ys, v ≠ .tup ys) : Go T H (upd G d u) := by
  have w := go_set (S := [d]) (o := u) g.2 e2 mv (by simp)
  refine ⟨fun b o eb nt mm => ?_, w.2⟩
  by_cases z : b = d
  · rw [z, upd_same]
    rw [z, e] at eb
    exact eb
  · rw [upd_ne z]
    exact g.1 b o eb nt (.inl (by simpa using z))
/-- a list comprehension over texts: each that the test takes makes an item -/
theorem lc_ov {T : Tb} {J : It} {St : Hp → Prop} {xs : List Str} {i : Nat} {tt : TT} {te : TE} {σ : L2.St} {H1 : Hp} {D : Addr} {Qd : Hp → Prop} (pb : Str → Bool) (R : Hp → V → Str → Prop) (hR : ∀ G G' y x, ExtT G G' → R G y x → R G' y x)
    (ov : Ov J St (xs.map V.str)) (tk : TOk T H1) (hD : H1 D = none) (hst : ∀ G, GoE T [D] (upd H1 D (.lst [])) G → St G) (hl : xs.length ≤ 1000)
    (htt : ∀ x ∈ xs, ∀ (G : Hp) (k : Bool → Hp → Prop), GoE T [D] (upd H1 D (.lst [])) G → (∀ G', Go T G G' → k (pb x) G') → tt ((wipe σ [i]).set i (some (.str x))) G k)
    (hte : ∀ x ∈ xs, pb x = true → ∀ (G : Hp) (Q' : VK), GoE T [D] (upd H1 D (.lst [])) G → (∀ y G', Go T G G' → R G' y x → Q' y G') → te ((wipe σ [i]).set i (some (.str x))) G Q')
    (h : ∀ G ys, GoE T [D] (upd H1 D (.lst [])) G → G D = some (.lst ys) → All2 (R G) ys (xs.filter pb) → Qd G) :
    ∃ W : Nat → Nat → Hp → Prop, (∃ m, W 0 m (upd H1 D (.lst []))) ∧ ∀ j m H, W j m H →
      (J.stop j H ∧ Qd H) ∨ (J.go j H ∧ ∃ Nx : Hp → Prop, (∀ H', Nx H' → ∃ m', m' < m ∧ W (j + 1) m' H') ∧ ∀ x H', J.yld j H x H' → gName i x (wipe σ [i]) H' fun σ2 H2 => wipe σ2 [i] = wipe σ [i] ∧ tt σ2 H2 fun b H3 =>
        if b = true then te σ2 H3 fun y H4 => ∃ acc, H4 D = some (.lst acc) ∧ acc.length < sizeLine ∧ Nx (upd H4 D (.lst (acc ++ [y]))) else Nx H3) := by
  have hle : (xs.map V.str).length = xs.length := List.length_map _
  refine ⟨fun j m G => j + m = xs.length ∧ GoE T [D] (upd H1 D (.lst [])) G ∧ ∃ ys, G D = some (.lst ys) ∧ All2 (R G) ys ((xs.take j).filter pb), ⟨xs.length, Nat.zero_add _, GoE.refl (go_upd (S := [D]) tk hD).2, [], upd_same, All2.nil⟩, fun j m G w => ?_⟩
  obtain ⟨e, g, ys, eD, al⟩ := w
  rcases Nat.lt_or_ge j xs.length with hj | hj
  · refine .inr ⟨ov.go j _ (hst _ g) (by rw [hle]; exact hj), fun G => GoE T [D] (upd H1 D (.lst [])) G ∧ ∃ ys, G D = some (.lst ys) ∧ All2 (R G) ys ((xs.take (j + 1)).filter pb), fun G' q => ⟨m - 1, by omega, by omega, q⟩, fun x G' yy => ?_⟩
    obtain ⟨rfl, hx⟩ := ov.yld j _ x G' (hst _ g) (by rw [hle]; exact hj) yy
    clear yy
    obtain ⟨y, hy, rfl⟩ := str_at hx
    have hm := List.mem_of_getElem? hy
    refine ⟨wipe_one, htt y hm _ _ g fun G2 g2 => ?_⟩
    have gg := g.trans (Go.any g2)
    have eD2 := g2.at eD
    have al2 := al.imp fun a b z => hR _ _ a b g2.t z
    rw [filter_snoc hy]
    by_cases hb : pb y = true
    · rw [if_pos hb, if_pos hb]
      refine hte y hm hb _ _ gg fun v G3 g3 r => ?_
      have eD3 := g3.at eD2
      have w2 : GoE T [D] G3 (upd G3 D (.lst (ys ++ [v]))) := go_set g3.2 eD3 mu_lst (by simp)
      refine ⟨_, eD3, ?_, (gg.trans (Go.any g3)).trans w2, ys ++ [v], upd_same, ?_⟩
      · rw [al.1, sizeLine_eq]
        have h1 := List.length_filter_le pb (xs.take j)
        rw [List.length_take] at h1
        omega
      · exact (al2.imp fun a b z => hR _ _ a b (g3.t.trans w2.t) z).snoc (hR _ _ v y w2.t r)
    · rw [if_neg hb, if_neg hb, List.append_nil]
      exact ⟨gg, ys, eD2, al2⟩
  · have e2 : j = xs.length := by omega
    subst e2
    refine .inl ⟨?_, h G ys g eD ?_⟩
    · have := ov.stop G (hst _ g)
      rw [hle] at this
      exact this
    · rw [List.take_length] at al
      exact al
/-- the same over the keys of a dict, locked meanwhile -/
theorem lcK {T : Tb} {d : Addr} {A : Files} {i : Nat} {ta : TE} {tt : TT} {te : TE} {σ : L2.St} {H : Hp} {Q : VK} (pb : Str → Bool) (R : Hp → V → Str → Prop) (hR : ∀ G G' y x, ExtT G G' → R G y x → R G' y x) (tk : TOk T H) (ed : H d = some (.dK (fk A))) (hl : A.length ≤ 1000)
    (hta : ∀ (G : Hp) (k : VK), (G d = some (.dK (fk A)) ∨ ∃ od, G d = some (.frz od (.dK (fk A)))) → GoE T [d] H G → k (.ref d) G → ta σ G k)
    (htt : ∀ x ∈ keysF A, ∀ (G : Hp) (k : Bool → Hp → Prop) (od : Obj), GoE T [d] H G → G d = some (.frz od (.dK (fk A))) → (∀ G', Go T G G' → k (pb x) G') → tt ((wipe σ [i]).set i (some (.str x))) G k)
    (hte : ∀ x ∈ keysF A, pb x = true → ∀ (G : Hp) (Q' : VK) (od : Obj), GoE T [d] H G → G d = some (.frz od (.dK (fk A))) → (∀ y G', Go T G G' → R G' y x → Q' y G') → te ((wipe σ [i]).set i (some (.str x))) G Q')
    (h : ∀ G D ys, Go T H G → H D = none → G D = some (.lst ys) → All2 (R G) ys ((keysF A).filter pb) → Q (.ref D) G) : tLockE (tLc (iKeys ta) (gName i) tt te [i]) σ H Q := by
  refine ⟨d, .dK (fk A), ed, trivial, fun od => ?_⟩
  have w0 : GoE T [d] H (upd H d (.frz od (.dK (fk A)))) := go_set tk ed mu_dK (by simp)
  have ef0 : upd H d (.frz od (.dK (fk A))) d = some (.frz od (.dK (fk A))) := upd_same
  have key : ∀ D, upd H d (.frz od (.dK (fk A))) D = none → H D = none ∧ D ≠ d := fun D hD => by
    by_cases z : D = d
    · rw [z, upd_same] at hD; cases hD
    · rw [upd_ne z] at hD; exact ⟨hD, z⟩
  generalize upd H d (.frz od (.dK (fk A))) = F0 at w0 ef0 key ⊢
  refine hta F0 _ (.inr ⟨od, ef0⟩) w0 ⟨d, od, rfl, .inl ⟨fk A, ef0, fun D hD => ?_⟩⟩
  obtain ⟨hD0, nD⟩ := key D hD
  have w1 : Go T F0 (upd F0 D (.lst [])) := go_upd w0.2 hD
  have ef1 := w1.at ef0
  have lift : ∀ {G : Hp}, GoE T [D] (upd F0 D (.lst [])) G → GoE T [d] H G ∧ G d = some (.frz od (.dK (fk A))) := fun {G} g => by
    refine ⟨⟨fun b o e nt mm => g.1 b o (w1.1 b o (w0.1 b o e nt mm) nt (.inl (by simp))) nt ?_, g.2⟩, g.at ef1 (by simpa using Ne.symm nD)⟩
    rcases mm with mm | mm
    · exact .inl (by simpa using ne_of_none e hD0)
    · exact .inr mm
  refine lc_ov pb R hR ovk w0.2 hD (fun G g => (lift g).2) (by unfold keysF; rw [List.length_map]; exact hl) (fun x hx G k g q => htt x hx G k od (lift g).1 (lift g).2 q) (fun x hx hb G Q' g q => hte x hx hb G Q' od (lift g).1 (lift g).2 q) fun G ys g eD al => ?_
  obtain ⟨g1, ef⟩ := lift g
  have gb : Go T H (upd G d (.dK (fk A))) := go_back tk ed g1 ef mu_frz
  have xt : ExtT G (upd G d (.dK (fk A))) := fun b xs e => by
    rw [upd_ne fun z => ?_]
    · exact e
    · rw [z, ef] at e; cases e
  exact ⟨ef, h _ D ys gb hD0 (by rw [upd_ne nD]; exact eD) (al.imp fun a b z => hR _ _ a b xt z)⟩
/-- any over the keys of a dict, locked meanwhile -/
theorem anyK {T : Tb} {d P0 : Addr} {A : Files} {i : Nat} {ta : TE} {te : Value → TE} {σ : L2.St} {H : Hp} {Q : VK} {Post : Hp → Hp → Value → Prop} {Pre : Hp → Prop} (pb : Str → Bool) (tk : TOk T H) (ed : H d = some (.dK (fk A)))
    (hpre : ∀ G, TOk T G → Pre G) (hpost : ∀ G G' cd, TOk T G → Post G G' cd → Go T G G')
    (hta : ∀ (G : Hp) (k : VK), GoE T [d] H G → k (.ref d) G → ta σ G k)
    (hte : ∀ x ∈ keysF A, ∀ (cd : Value) (G : Hp) (Q' : VK), GoE T [d] H G → (∀ G', Go T G G' → Q' (.bl (pb x)) G') → te cd ((wipe σ [i]).set i (some (.str x))) G Q')
    (h : ∀ G, Go T H G → Q (.bl ((keysF A).any pb)) G) : tLockE (tGenC Pre Post false (iKeys ta) (gName i) tYes te [i]) σ H Q := by
  refine ⟨d, .dK (fk A), ed, trivial, fun od => ?_⟩
  have w0 : GoE T [d] H (upd H d (.frz od (.dK (fk A)))) := go_set tk ed mu_dK (by simp)
  have ef0 : upd H d (.frz od (.dK (fk A))) d = some (.frz od (.dK (fk A))) := upd_same
  generalize upd H d (.frz od (.dK (fk A))) = F0 at w0 ef0 ⊢
  refine hta F0 _ w0 ⟨d, od, rfl, .inl ⟨fk A, ef0, hpre _ w0.2, fun H2 cd post => ?_⟩⟩
  have w2 := hpost _ _ _ w0.2 post
  have ef2 := w2.at ef0
  refine any_go (S := []) ovk (fun G g => g.at ef2) w2.2 pb (fun x hx G Q' g q => hte x hx cd G Q' ((w0.trans (Go.any w2)).trans (Go.any g)) q) fun G g => ?_
  have ef := g.at ef2
  exact ⟨ef, h _ (go_back tk ed ((w0.trans (Go.any w2)).trans (Go.any g)) ef mu_frz)⟩
end Sg
end Text_S9
section Text_S10
set_option Elab.async false
set_option linter.all false
set_option maxRecDepth 100000
set_option maxHeartbeats 4000000
namespace Sg
open PySem PySem.Spec PyProof.Rows L2 Gx GxR
/-! check_files, in_way -/
def isFold (A : Files) (p : Str) : Bool := (keysF A).any fun q => Txt.startswith q (p ++ "/")
def badF (A : Files) : Bool := (keysF A).any fun p => badP p || isFold A p
def wayS (p q : Str) : Bool := Txt.startswith q (p ++ "/") || Txt.startswith p (q ++ "/")
def way (A : Files) (p : Str) : Bool := (keysF A).any fun q => wayS p q
/-- files of few paths, short ones -/
def fsm (A : Files) : Prop := A.length ≤ 100 ∧ ∀ p ∈ keysF A, p.cps.toList.length ≤ 100
theorem app_len (a b : Str) : (a ++ b).length = a.length + b.length := by
  rw [← tl_len, ← tl_len, ← tl_len, show (a ++ b).cps.toList = a.cps.toList ++ b.cps.toList from Array.toList_append, List.length_append]
def spFiles (T : Tb) (CP : Addr) : Sp := fun vs H Q E => ∃ a o A, vs = [.ref a] ∧ H a = some (.frz o (.dK (fk A))) ∧ fsm A ∧ TOk T H ∧ (badF A = true → ∀ H', Go T H H' → E (.ref CP) none H') ∧ (badF A = false → ∀ H', Go T H H' → Q .non H')
abbrev NCf : List Str := ["files", "path", "other"]
section
variable {P : Program} {w : World} {K : PySem.W.Frag} {mg : Str → Option Value} {base : Heap} {T : Tb} {CP CG CS : Addr}
theorem scCf : FnScope NCf ["files"] (defScope sFiles) := ⟨rfl, rfl, rfl, by decide +kernel, rfl, by decide +kernel, by decide +kernel⟩
theorem ok_files {f c fP : Addr} {fd fdP : FuncData} (F : FunC K "check_files" "check_files" sFiles f c fd) (X : Er K mg CP CG CS) (Y : Tx K mg) (bf : TabB base mg c T.cf) (GP : FnOk P w K mg base (L2.CX P w) 3 fP fdP ["path"] (spPath T CP)) (mP : mg "check_path" = some (.ref fP))
    (kP : PySem.W.keepIn K (.ref fP) = true) (bP : Binds K fdP ["path"] []) : FnOk P w K mg base (L2.CX P w) 4 f fd ["files"] (spFiles T CP) := by
  refine F.okX scCf (fun vs H Q E h => ?_) (fun A0 outer s H vs Q E hr h => ?_)
  · obtain ⟨a, o, A, rfl, _⟩ := h
    rfl
  · obtain ⟨a, o, A, rfl, ea, sm, tk, k1, k2⟩ := h
    refine ⟨_, pss_one (ps_for (passes_of rfl) rfl (pi_keys (pv 0)) (pg_name (i := 1) scCf.nd rfl (Or.inr rfl))
        (pss_cons (ps_expr (pe_call GP hr rfl mP kP bP .nil (passes_call (takes_of rfl rfl rfl rfl) (fun _ _ _ _ e => e)) (pa_cons (pv 1) pa_nil)))
        (pss_one (ps_if (pt_val (pe_anyC (own := [("other", 2)]) (k := 1) (hr.mono (by decide)) rfl Y.any ⟨_, bf.bm⟩ (mkC_base bf rfl) scCf.nd (gOkC_by (N := NCf) (sc := defScope sFiles) (by decide +kernel)) (pi_keys (pv 0))
            ⟨fun _ _ _ _ _ _ _ _ => pg_name (i := 2) scCf.nd rfl (Or.inl rfl) (Or.inr rfl), fun _ _ _ _ _ _ _ _ => pts_nil, fun _ _ _ _ _ _ _ _ => pe_m1 PySem.F.slot_str_startswith PySem.F.type_str_startswith mt_startswith (pv 2) (pe_op op_add_str (pv 1) pe_str)⟩))
          (pss_one (ps_raise rfl (takes_of rfl rfl rfl rfl) (pmk_own PySem.F.excBase_ValueError X.P.x X.P.g X.P.k (raises_own X.P.b X.P.t) rfl))) pss_nil)))), ?_⟩
    have hle : ((keysF A).map V.str).length = (keysF A).length := List.length_map _
    refine ⟨_, rfl, a, o, rfl, .inl ⟨fk A, ea, ?_⟩⟩
    have ov := ovk (d := a) (o := o) (A := A)
    refine for_turns (keysF A).length (fun i σ G => Go T H G ∧ (∃ v1, σ = [some (.ref a), v1, none]) ∧ ∀ p ∈ (keysF A).take i, (badP p || isFold A p) = false) ⟨GoE.refl tk, ⟨none, rfl⟩, fun p hp => by simp at hp⟩ (fun i σ G hi h => ⟨ov.go i G (h.1.at ea) (by rw [hle]; exact hi), fun x G' y => ?_⟩) (fun σ G h => ⟨by have := ov.stop G (h.1.at ea); rw [hle] at this; exact this, ?_⟩)
    · obtain ⟨g, ⟨v1, rfl⟩, h3⟩ := h
      obtain ⟨rfl, hx⟩ := ov.yld i G x G' (g.at ea) (by rw [hle]; exact hi) y
      obtain ⟨p, hp, rfl⟩ := str_at hx
      have hm := List.mem_of_getElem? hp
      have hpl := sm.2 p hm
      have hpn : p.length ≤ 100 := by rw [← tl_len]; exact hpl
      have yes : (badP p || isFold A p) = true → ∀ G2, Go T G' G2 → E (.ref CP) none G2 := fun hb G2 g2 => k1 (List.any_eq_true.mpr ⟨p, hm, hb⟩) _ (g.trans g2)
      refine ⟨_, rfl, p, rfl, by omega, g.2, fun hb G2 g2 => yes (by rw [hb]; rfl) _ g2, fun hb G2 g2 => ?_⟩
      have e2 := (g.trans g2).at ea
      refine ⟨_, rfl, a, o, rfl, .inl ⟨fk A, e2, g2.2.cf, fun H3 cd tb => ?_⟩⟩
      have g3 : Go T G2 H3 := g2.2.cfx tb
      refine any_go (S := []) ovk (fun G g => g.at (g3.at e2)) g3.2 (fun q => Txt.startswith q (p ++ "/")) (fun q hq G5 Q' g5 k => ?_) fun G4 g4 => ⟨_, rfl, ?_⟩
      · have hq2 := sm.2 q hq
        exact ⟨_, rfl, ⟨_, rfl⟩, _, rfl, p, _, rfl, rfl, by show p.length + 1 ≤ _; rw [sizeLine_eq]; omega, q, _, rfl, rfl, k G5 (GoE.refl g5.2)⟩
      have gg := (g2.trans g3).trans g4
      cases hf : isFold A p with
      | true =>
        have e : ((keysF A).any fun q => Txt.startswith q (p ++ "/")) = true := hf
        rw [e]
        exact iteT (yes (by rw [hf]; simp) _ gg)
      | false =>
        have e : ((keysF A).any fun q => Txt.startswith q (p ++ "/")) = false := hf
        rw [e]
        refine iteF' Bool.false_ne_true ⟨g.trans gg, ⟨_, rfl⟩, fun q hq => ?_⟩
        rw [take_snoc hp] at hq
        rcases List.mem_append.mp hq with z | z
        · exact h3 q z
        · rw [List.mem_singleton.mp z, hb, hf]; rfl
    · refine k2 ?_ _ h.1
      unfold badF
      rw [List.any_eq_false]
      intro p hp
      have := h.2.2 p (by rw [List.take_length]; exact hp)
      simp [this]
theorem scIw : FnScope ["files", "path", "other"] ["files", "path"] (defScope sWay) := ⟨rfl, rfl, rfl, by decide +kernel, rfl, by decide +kernel, by decide +kernel⟩
def spWay (T : Tb) : Sp := fun vs H Q _ => ∃ a p A, vs = [.ref a, .str p] ∧ H a = some (.dK (fk A)) ∧ fsm A ∧ p.cps.toList.length ≤ 100 ∧ TOk T H ∧ ∀ H', Go T H H' → Q (.bl (way A p)) H'
theorem ok_way {f c : Addr} {fd : FuncData} (F : FunC K "in_way" "in_way" sWay f c fd) (Y : Tx K mg) (bf : TabB base mg c T.iw) : FnOk P w K mg base CX0 3 f fd ["files", "path"] (spWay T) := by
  refine F.ok scIw (fun vs H Q E h => ?_) (fun A0 outer s H vs Q E hr h => ?_)
  · obtain ⟨a, p, A, rfl, _⟩ := h
    rfl
  · obtain ⟨a, p, A, rfl, ea, sm, hp, tk, k⟩ := h
    refine ⟨_, pss_one (ps_ret (pe_lock (pe_anyC (own := [("other", 2)]) (k := 1) hr rfl Y.any ⟨_, bf.bm⟩ (mkC_base bf rfl) scIw.nd (gOkC_by (N := ["files", "path", "other"]) (sc := defScope sWay) (by decide +kernel)) (pi_keys (pv 0))
            ⟨fun _ _ _ _ _ _ _ _ => pg_name (i := 2) scIw.nd rfl (Or.inl rfl) (Or.inr rfl), fun _ _ _ _ _ _ _ _ => pts_nil, fun _ _ _ _ _ _ _ _ => pe_or (pe_m1 PySem.F.slot_str_startswith PySem.F.type_str_startswith mt_startswith (pv 2) (pe_op op_add_str (pv 1) pe_str))
              (pe_one (pe_m1 PySem.F.slot_str_startswith PySem.F.type_str_startswith mt_startswith (pv 1) (pe_op op_add_str (pv 2) pe_str)))⟩))), ?_⟩
    refine anyK (T := T) (d := a) (P0 := a) (A := A) (fun q => wayS p q) tk ea (fun G t => t.iw) (fun G G' cd t tb => t.iwx tb) (fun G k _ q => ⟨_, rfl, q⟩) (fun x hx cd G Q' g q => ?_) fun G g => k G g
    have hx2 := sm.2 x hx
    have n1 : x.length ≤ 100 := by rw [← tl_len]; exact hx2
    have n2 : p.length ≤ 100 := by rw [← tl_len]; exact hp
    have qq := q G (GoE.refl g.2)
    unfold wayS at qq
    refine ⟨_, rfl, ⟨_, rfl⟩, _, rfl, p, _, rfl, rfl, by show p.length + 1 ≤ _; rw [sizeLine_eq]; omega, x, _, rfl, rfl, _, rfl, orR (fun e => ?_) (fun e => ⟨_, rfl, ⟨_, rfl⟩, _, rfl, x, _, rfl, rfl, by show x.length + 1 ≤ _; rw [sizeLine_eq]; omega, p, _, rfl, rfl, ?_⟩)⟩
    · rw [e] at qq; exact qq
    · rw [e, Bool.false_or] at qq; exact qq
end
end Sg
end Text_S10
section Text_S11
set_option Elab.async false
set_option linter.all false
set_option maxRecDepth 100000
set_option maxHeartbeats 4000000
namespace Sg
open PySem PySem.Spec PyProof.Rows L2 Gx GxR
/-! left_out -/
def bareS (q : Str) : Str := if Txt.startswith q "!" = true then cutS q (some 1) none else q
def leftHit (ns : List Str) (q : Str) : Bool := (List.range ns.length).any fun k => fitS (bareS q) (Txt.join "/" (ns.take (k + 1)))
def leftStep (ns : List Str) (b : Bool) (q : Str) : Bool := if leftHit ns q = true then !Txt.startswith q "!" else b
def leftOut (ps : List Str) (p : Str) : Bool := ps.foldl (leftStep (Txt.split p "/")) false
/-- what left_out asks of a path -/
def lokP (p : Str) : Prop := p.cps.toList.length ≤ 100 ∧ (Txt.split p "/").length ≤ 100 ∧ ∀ k, k < (Txt.split p "/").length → (((Txt.split p "/").take (k + 1)).map (·.length)).sum ≤ 10000 ∧ (Txt.join "/" ((Txt.split p "/").take (k + 1))).cps.toList.length ≤ 1000
def lokB (p : Str) : Bool := decide (p.cps.toList.length ≤ 100) && (decide ((Txt.split p "/").length ≤ 100) && (List.range (Txt.split p "/").length).all fun k => decide ((((Txt.split p "/").take (k + 1)).map (·.length)).sum ≤ 10000) && decide ((Txt.join "/" ((Txt.split p "/").take (k + 1))).cps.toList.length ≤ 1000))
theorem lok_of {p : Str} (h : lokB p = true) : lokP p := by
  unfold lokB at h
  obtain ⟨a, h⟩ := Bool.and_eq_true_iff.mp h
  obtain ⟨b, h⟩ := Bool.and_eq_true_iff.mp h
  refine ⟨of_decide_eq_true a, of_decide_eq_true b, fun k hk => ?_⟩
  obtain ⟨c, d⟩ := Bool.and_eq_true_iff.mp (List.all_eq_true.mp h k (List.mem_range.mpr hk))
  exact ⟨of_decide_eq_true c, of_decide_eq_true d⟩
theorem cutV_take (xs : List V) (k : Nat) : cutV xs none (some (k : Int)) = xs.take k := by
  unfold cutV
  rw [HT.sIx_none, HT.sIx_nat, List.drop_zero, Nat.sub_zero]
  rw [List.take_eq_take_iff]
  omega
def spLeft (T : Tb) : Sp := fun vs H Q _ => ∃ t p ps, vs = [.ref t, .str p] ∧ H t = some (.tup (ps.map V.str)) ∧ ps.length ≤ 10 ∧ (∀ q ∈ ps, q.cps.toList.length ≤ 8) ∧ lokP p ∧ TOk T H ∧ ∀ H', Go T H H' → Q (.bl (leftOut ps p)) H'
abbrev NLo : List Str := ["patterns", "path", "names", "found", "pattern", "bare", "many"]
theorem bare_pick {q : Str} {σ : L2.St} {G : Hp} {Qc : VK} {i : Nat} (hi : σ[i]? = some (some (.str q))) (hl : q.length ≤ sizeLine) (h : Qc (.str (bareS q)) G) : if Txt.startswith q "!" = true then tSl rSlS (tVar i) (tPart (tC (V.int 1))) tNoPart σ G Qc else tVar i σ G Qc := by
  unfold bareS at h
  by_cases z : Txt.startswith q "!" = true
  · rw [if_pos z] at h ⊢
    exact ⟨_, hi, 1, rfl, q, rfl, hl, h⟩
  · rw [if_neg z] at h ⊢
    exact ⟨_, hi, h⟩
theorem bare_len {q : Str} (h : q.cps.toList.length ≤ 8) : (bareS q).cps.toList.length ≤ 8 := by
  unfold bareS
  split
  · rw [cut1, List.length_drop]
    omega
  · exact h
section
variable {X : Cx}
theorem sl_listK (K : PySem.W.Frag) (hK : X.K = K) : SlR X (rSlL K) := by
  rw [← hK]
  exact sl_list
theorem mt_joinK (K : PySem.W.Frag) (hK : X.K = K) : MtR X "str.join" (fun x xs H Q => ∃ a p, ∃ ys : List Str, x = .str a ∧ xs = [.ref p] ∧ (SqL K H p (ys.map V.str) ∨ SqT K H p (ys.map V.str)) ∧ (ys.map (·.length)).sum + ys.length * a.length ≤ 16777216 ∧ Q (.str (Txt.join a ys)) H) := by
  rw [← hK]
  exact mt_join
end
section
variable {P : Program} {w : World} {K : PySem.W.Frag} {mg : Str → Option Value} {base : Heap} {T : Tb} {CP CG CS : Addr}
theorem scLo : FnScope NLo ["patterns", "path"] (defScope sLeft) := ⟨rfl, rfl, rfl, by decide +kernel, rfl, by decide +kernel, by decide +kernel⟩
theorem ok_left {f c fX : Addr} {fd fdX : FuncData} (F : FunC K "left_out" "left_out" sLeft f c fd) (Y : Tx K mg) (bl : TabB base mg c T.lo) (GX : FnOk P w K mg base CX0 18 fX fdX ["pattern", "path"] (spFits T 8)) (mX : mg "fits" = some (.ref fX))
    (kX : PySem.W.keepIn K (.ref fX) = true) (bX : Binds K fdX ["pattern", "path"] []) : FnOk P w K mg base CX0 21 f fd ["patterns", "path"] (spLeft T) := by
  refine F.ok scLo (fun vs H Q E h => ?_) (fun A0 outer s H vs Q E hr h => ?_)
  · obtain ⟨t, p, ps, rfl, _⟩ := h
    rfl
  · obtain ⟨t, p, ps, rfl, et, hps, hq8, lok, tk, k1⟩ := h
    refine ⟨_, pss_cons (ps_asg (pe_tup (pa_cons (pe_split (pv 1) pe_str) (pa_cons pe_bl pa_nil))) (pg_tup rfl (pgs_cons (pg_name (i := 2) scLo.nd rfl (Or.inr rfl)) (pgs_cons (pg_name (i := 3) scLo.nd rfl (Or.inl rfl)) pgs_nil))))
      (pss_cons (ps_for PassesOwn.never rfl (pi_tup (pv 0)) (pg_name (i := 4) scLo.nd rfl (Or.inl rfl))
        (pss_cons (ps_set (i := 5) scLo.nd rfl (Or.inr rfl) (pe_ifExp (pt_val (pe_m1 PySem.F.slot_str_startswith PySem.F.type_str_startswith mt_startswith (pv 4) pe_str)) (pe_slice sl_str (pv 4) (po_some pe_int) po_none) (pv 4)))
        (pss_one (ps_if (pt_val (pe_anyC (own := [("many", 6)]) (k := 19) hr rfl Y.any ⟨_, bl.bm⟩ (mkC_base bl rfl) scLo.nd (gOkC_by (N := NLo) (sc := defScope sLeft) (by decide +kernel)) (pi_range2 rfl Y.range (pa_cons pe_int (pa_cons (pe_op op_add (pe_callB (call_len_seqK K rfl) (by rfl) Y.len PySem.boot_len (pa_cons (pv 2) pa_nil)) pe_int) pa_nil)))
            ⟨fun _ _ _ _ _ _ _ _ => pg_name (i := 6) scLo.nd rfl (Or.inl rfl) (Or.inr rfl), fun _ _ _ _ _ _ _ _ => pts_nil, fun _ _ _ _ _ _ _ hr' => pe_call GX (hr'.mono (by decide)) rfl mX kX bX .nil pass0 (pa_cons (pv 5) (pa_cons (pe_m1 PySem.F.slot_str_join PySem.F.type_str_join (mt_joinK K rfl) pe_str (pe_slice (sl_listK K rfl) (pv 2) po_none (po_some (pv 6)))) pa_nil))⟩))
          (pss_one (ps_set (i := 3) scLo.nd rfl (Or.inl rfl) (pe_not (pe_m1 PySem.F.slot_str_startswith PySem.F.type_str_startswith mt_startswith (pv 4) pe_str)))) pss_nil))))
      (pss_one (ps_ret (pv 3)))), ?_⟩
    obtain ⟨lp, lns, lk⟩ := lok
    have hpn : p.length ≤ 100 := by rw [← tl_len]; exact lp
    refine ⟨_, rfl, ⟨p, rfl⟩, p, _, rfl, rfl, by decide +kernel, by rw [sizeLine_eq]; omega, fun L hL => ⟨by show 2 ≤ sizeLine; decide, fun q0 hq0 => ⟨q0, _, rfl, SqT.of upd_same, rfl, _, _, rfl, _, _, rfl, rfl, ?_⟩⟩⟩
    have w1 : Go T H (upd H L (.lst ((Txt.split p "/").map V.str))) := go_upd tk hL
    have eL : upd H L (.lst ((Txt.split p "/").map V.str)) L = some (.lst ((Txt.split p "/").map V.str)) := upd_same
    generalize upd H L (.lst ((Txt.split p "/").map V.str)) = H1 at w1 eL hq0 ⊢
    have w2 : Go T H1 (upd H1 q0 (.tup [.ref L, .bl false])) := go_upd w1.2 hq0
    have eL := w2.at eL
    have w12 := w1.trans w2
    generalize upd H1 q0 (.tup [.ref L, .bl false]) = H2 at w2 eL w12 ⊢
    have et2 := w12.t _ _ et
    generalize hns : Txt.split p "/" = ns at eL lns lk
    have step : ∀ {i : Nat} {q : Str}, ps[i]? = some q → (ps.take (i + 1)).foldl (leftStep ns) false = leftStep ns ((ps.take i).foldl (leftStep ns) false) q := fun {i q} h => by rw [take_snoc h, List.foldl_append]; rfl
    have hle : (ps.map V.str).length = ps.length := List.length_map _
    refine ⟨_, rfl, t, rfl, ⟨_, SqT.of et2⟩, for_turns ps.length (fun i σ G => Go T H2 G ∧ ∃ v4 v5, σ = [some (.ref t), some (.str p), some (.ref L), some (.bl ((ps.take i).foldl (leftStep ns) false)), v4, v5, none]) ⟨GoE.refl w12.2, none, none, rfl⟩ (fun i σ G hi h => ⟨ov_t.go i G (SqT.of (h.1.t _ _ et2)) (by rw [hle]; exact hi), fun x G' y => ?_⟩) (fun σ G h => ⟨by have := (ov_t (K := K)).stop G (SqT.of (h.1.t _ _ et2)); rw [hle] at this; exact this, ?_⟩)⟩
    · obtain ⟨g, v4, v5, rfl⟩ := h
      obtain ⟨rfl, hx⟩ := ov_t.yld i G x G' (SqT.of (g.t _ _ et2)) (by rw [hle]; exact hi) y
      obtain ⟨q, hq, rfl⟩ := str_at hx
      have hm := List.mem_of_getElem? hq
      have hqn : q.length ≤ sizeLine := by rw [← tl_len, sizeLine_eq]; have := hq8 q hm; omega
      refine ⟨_, rfl, ⟨_, rfl⟩, q, _, rfl, rfl, _, rfl, bare_pick rfl hqn ?_⟩
      have eLg := g.at eL
      refine ⟨_, rfl, L, _, rfl, .inl (SqL.of eLg), _, _, rfl, rfl, _, _, rfl, ?_, g.2.lo, fun H3 cd tb => ?_⟩
      · rw [List.length_map]
        omega
      have g3 : Go T G' H3 := g.2.lox tb
      have eL3 := g3.at eLg
      have en : ((((ns.map V.str).length : Int) + 1) - 1).toNat = ns.length := by rw [List.length_map]; omega
      rw [en]
      refine turns_of ns.length (fun k G => Go T H3 G ∧ ∀ j, j < k → fitS (bareS q) (Txt.join "/" (ns.take (j + 1))) = false) ⟨GoE.refl g3.2, fun j hj => absurd hj (Nat.not_lt_zero j)⟩ (fun G h => ⟨Nat.le_refl _, ?_⟩) (fun k G hk h => ⟨hk, fun x G2 y => ?_⟩)
      · have e : leftHit ns q = false := by
          unfold leftHit
          rw [List.any_eq_false]
          intro j hj
          have := h.2 j (List.mem_range.mp hj)
          simp [this]
        refine ⟨false, rfl, iteF' Bool.false_ne_true ⟨(g.trans g3).trans h.1, some (.str q), some (.str (bareS q)), ?_⟩⟩
        rw [step hq]
        unfold leftStep
        rw [e]
        rfl
      · obtain ⟨rfl, rfl⟩ := y
        have eLk := h.1.at eL3
        refine ⟨wipe_one, _, rfl, ⟨_, rfl⟩, _, rfl, _, rfl, _, rfl, L, _, rfl, SqL.of eLk, fun l hl => ⟨_, l, ns.take (k + 1), rfl, rfl, .inl (SqL.of ?_), ?_, bareS q, _, rfl, bare_len (hq8 q hm), by decide, (lk k hk).2, (h.1.trans (go_upd h.1.2 hl)).2, fun G3 g4 => ⟨_, rfl, ?_⟩⟩⟩
        · rw [upd_same, show (1 : Int) + (k : Int) = ((k + 1 : Nat) : Int) by omega, cutV_take, List.map_take]
        · have := (lk k hk).1
          rw [List.length_take]
          show _ + _ * 1 ≤ _
          omega
        have gg := (h.1.trans (go_upd h.1.2 hl)).trans g4
        cases hb : fitS (bareS q) (Txt.join "/" (ns.take (k + 1))) with
        | true =>
          refine iteF' (by decide) ⟨true, rfl, iteT ⟨_, rfl, ⟨_, rfl⟩, q, _, rfl, rfl, _, rfl, ?_⟩⟩
          refine ⟨(g.trans g3).trans gg, some (.str q), some (.str (bareS q)), ?_⟩
          rw [step hq]
          have e : leftHit ns q = true := List.any_eq_true.mpr ⟨k, List.mem_range.mpr hk, hb⟩
          unfold leftStep
          rw [e]
          rfl
        | false =>
          refine (if_pos rfl).mpr ⟨gg, fun j hj => ?_⟩
          rcases Nat.lt_or_ge j k with hj2 | hj2
          · exact h.2 j hj2
          · rw [show j = k by omega]; exact hb
    · obtain ⟨g, v4, v5, rfl⟩ := h
      refine ⟨_, rfl, ?_⟩
      rw [List.take_length]
      have := k1 _ (w12.trans g)
      unfold leftOut at this
      rw [hns] at this
      exact this
end
end Sg
end Text_S11
section Text_S12
set_option Elab.async false
set_option linter.all false
set_option maxRecDepth 100000
set_option maxHeartbeats 4000000
namespace Sg
open PySem PySem.Spec PyProof.Rows L2 Gx GxR
def fDrop (gs : Files) (n : Str) : Files := gs.filter fun q => !decide (q.1 = n)
def fPut (gs : Files) (n : Str) (m : Str) : Files := if (gs.any fun q => decide (q.1 = n)) = true then gs.map (fun q => if q.1 = n then (q.1, m) else q) else gs ++ [(n, m)]
theorem fk_drop (gs : Files) (n : Str) : dropK (fk gs) (Sum.inr n) = fk (fDrop gs n) := by
  unfold dropK fk fDrop
  rw [List.filter_map]
  refine congrArg (List.map _) (List.filter_congr fun q _ => ?_)
  show (decide ((Sum.inr q.1 : Key) ≠ Sum.inr n)) = !decide (q.1 = n)
  by_cases h : q.1 = n
  · rw [h]; simp
  · rw [decide_eq_false h, decide_eq_true (show (Sum.inr q.1 : Key) ≠ Sum.inr n from fun z => h (Sum.inr.inj z))]
    rfl
theorem fk_put (gs : Files) (n : Str) (m : Str) : putK (fk gs) (Sum.inr n) (V.str m) = fk (fPut gs n m) := by
  have e : ∀ q : Str × Str, decide ((Sum.inr q.1 : Key) = Sum.inr n) = decide (q.1 = n) := fun q => by
    rw [Bool.eq_iff_iff, decide_eq_true_iff, decide_eq_true_iff]
    exact ⟨fun h => Sum.inr.inj h, fun h => by rw [h]⟩
  unfold putK fPut fk
  have ea : ((gs.map fun p : Str × Str => ((Sum.inr p.1 : Key), V.str p.2)).any fun kv => decide (kv.1 = Sum.inr n)) = gs.any fun q => decide (q.1 = n) := by
    rw [List.any_map]
    exact congrArg _ (funext fun q => e q)
  rw [ea]
  by_cases h : (gs.any fun q => decide (q.1 = n)) = true
  · rw [if_pos h, if_pos h, List.map_map, List.map_map]
    refine List.map_congr_left fun q _ => ?_
    show (if (Sum.inr q.1 : Key) = Sum.inr n then ((Sum.inr q.1 : Key), V.str m) else (Sum.inr q.1, V.str q.2)) = (fun p : Str × Str => ((Sum.inr p.1 : Key), V.str p.2)) (if q.1 = n then (q.1, m) else q)
    by_cases hq : q.1 = n
    · rw [if_pos hq, if_pos (by rw [hq])]
    · rw [if_neg hq, if_neg fun z => hq (Sum.inr.inj z)]
  · rw [if_neg h, if_neg h, List.map_append]
    rfl
theorem lk_drop (gs : Files) (n k : Str) : lk (fDrop gs n) k = if k = n then none else lk gs k := by
  unfold lk fDrop
  induction gs with
  | nil => simp
  | cons q r ih =>
    rw [List.filter_cons]
    by_cases hq : q.1 = n
    · rw [decide_eq_true hq]
      simp only [Bool.not_true, Bool.false_eq_true, if_false]
      rw [ih]
      by_cases hk : k = n
      · rw [if_pos hk, if_pos hk]
      · rw [if_neg hk, if_neg hk, List.find?_cons, decide_eq_false (show ¬ q.1 = k from fun z => hk (z ▸ hq))]
    · rw [decide_eq_false hq]
      simp only [Bool.not_false, if_true]
      rw [List.find?_cons, List.find?_cons]
      by_cases hk : q.1 = k
      · rw [decide_eq_true hk, if_neg (show ¬ k = n from fun z => hq (hk.trans z))]
      · rw [decide_eq_false hk]
        exact ih
theorem lk_put (gs : Files) (n k : Str) (m : Str) : lk (fPut gs n m) k = if k = n then some m else lk gs k := by
  unfold fPut
  by_cases h : (gs.any fun q => decide (q.1 = n)) = true
  · rw [if_pos h]
    unfold lk
    rw [List.find?_map]
    have e : ((fun q : Str × Str => decide (q.1 = k)) ∘ fun q : Str × Str => if q.1 = n then (q.1, m) else q) = fun q : Str × Str => decide (q.1 = k) := by
      funext q
      show decide ((if q.1 = n then (q.1, m) else q).1 = k) = _
      split <;> rfl
    rw [e]
    cases hf : gs.find? fun q => decide (q.1 = k) with
    | none =>
      have : ¬ k = n := fun z => by
        rw [List.any_eq_true] at h
        obtain ⟨q, hq, e⟩ := h
        rw [List.find?_eq_none] at hf
        have := hf q hq
        rw [z] at this
        exact this e
      rw [if_neg this]
      rfl
    | some q =>
      have hq := List.find?_some hf
      have hq : q.1 = k := of_decide_eq_true hq
      by_cases z : k = n
      · rw [if_pos z]
        show some (if q.1 = n then (q.1, m) else q).2 = _
        rw [if_pos (hq.trans z)]
      · rw [if_neg z]
        show some (if q.1 = n then (q.1, m) else q).2 = _
        rw [if_neg fun y => z (hq.symm.trans y)]
        rfl
  · rw [if_neg h]
    unfold lk
    rw [List.find?_append]
    have hn : gs.find? (fun q => decide (q.1 = n)) = none := by
      rw [List.find?_eq_none]
      intro q hq e
      exact h (List.any_eq_true.mpr ⟨q, hq, e⟩)
    by_cases z : k = n
    · rw [if_pos z, z, hn]
      simp
    · rw [if_neg z]
      have : (([(n, m)] : Files).find? fun q => decide (q.1 = k)) = none := by
        rw [List.find?_cons, decide_eq_false (show ¬ n = k from fun y => z y.symm)]
        rfl
      rw [this, Option.or_none]
theorem fDrop_len (gs : Files) (n : Str) : (fDrop gs n).length ≤ gs.length := List.length_filter_le _ _
theorem fPut_len (gs : Files) (n : Str) (m : Str) : (fPut gs n m).length ≤ gs.length + 1 := by
  unfold fPut
  split
  · rw [List.length_map]; exact Nat.le_succ _
  · rw [List.length_append]; exact Nat.le_refl _
theorem put_ne {f g : Str} {v x : V} {r : List (Str × V)} (h : ¬ g = f) : putF f v ((g, x) :: r) = (g, x) :: putF f v r := if_neg h
theorem put_eq {f : Str} {v x : V} {r : List (Str × V)} : putF f v ((f, x) :: r) = (f, v) :: r := if_pos rfl
theorem look_ne {f g : Str} {x : V} {r : List (Str × V)} (h : ¬ f = g) : ((g, x) :: r).lookup f = r.lookup f := by
  rw [List.lookup_cons, (by simpa using h : (f == g) = false)]
theorem look_eq {f : Str} {x : V} {r : List (Str × V)} : ((f, x) :: r).lookup f = some x := by
  rw [List.lookup_cons, beq_self_eq_true]
/-! the stage -/
def flds (l s w p : V) : List (Str × V) := [("last", l), ("staged", s), ("work", w), ("patterns", p)]
section
variable {l s w p x : V}
theorem n12 : ¬ ("last" : Str) = "staged" := by decide +kernel
theorem n13 : ¬ ("last" : Str) = "work" := by decide +kernel
theorem n14 : ¬ ("last" : Str) = "patterns" := by decide +kernel
theorem n23 : ¬ ("staged" : Str) = "work" := by decide +kernel
theorem n24 : ¬ ("staged" : Str) = "patterns" := by decide +kernel
theorem n34 : ¬ ("work" : Str) = "patterns" := by decide +kernel
theorem flds_mk : putF "patterns" p (putF "work" w (putF "staged" s (putF "last" l []))) = flds l s w p := by
  show putF "patterns" p (putF "work" w (putF "staged" s [("last", l)])) = _
  rw [put_ne n12]
  show putF "patterns" p (putF "work" w [("last", l), ("staged", s)]) = _
  rw [put_ne n13, put_ne n23]
  show putF "patterns" p [("last", l), ("staged", s), ("work", w)] = _
  rw [put_ne n14, put_ne n24, put_ne n34]
  all_goals rfl
theorem put_l : putF "last" x (flds l s w p) = flds x s w p := put_eq
theorem put_s : putF "staged" x (flds l s w p) = flds l x w p := by
  unfold flds
  rw [put_ne n12, put_eq]
theorem put_w : putF "work" x (flds l s w p) = flds l s x p := by
  unfold flds
  rw [put_ne n13, put_ne n23, put_eq]
theorem put_p : putF "patterns" x (flds l s w p) = flds l s w x := by
  unfold flds
  rw [put_ne n14, put_ne n24, put_ne n34, put_eq]
theorem look_l : (flds l s w p).lookup ("last" : Str) = some l := look_eq
theorem look_s : (flds l s w p).lookup ("staged" : Str) = some s := (look_ne (Ne.symm n12)).trans look_eq
theorem look_w : (flds l s w p).lookup ("work" : Str) = some w := (look_ne (Ne.symm n13)).trans ((look_ne (Ne.symm n23)).trans look_eq)
theorem look_p : (flds l s w p).lookup ("patterns" : Str) = some p := (look_ne (Ne.symm n14)).trans ((look_ne (Ne.symm n24)).trans ((look_ne (Ne.symm n34)).trans look_eq))
theorem look_no {m : Str} (z : (["last", "staged", "work", "patterns"] : List Str).all (fun f => !decide (m = f)) = true) : (flds l s w p).lookup m = none := by
  rw [List.all_eq_true] at z
  have e : ∀ f ∈ (["last", "staged", "work", "patterns"] : List Str), ¬ m = f := fun f hf => by simpa using z f hf
  unfold flds
  rw [look_ne (e _ (by simp)), look_ne (e _ (by simp)), look_ne (e _ (by simp)), look_ne (e _ (by simp))]
  rfl
end
/-- the class as the top has made it -/
structure Cl (K : PySem.W.Frag) (mg : Str → Option Value) (C : Addr) : Prop where
  cl : Cls K C
  nL : NoAttr K C "last"
  nS : NoAttr K C "staged"
  nW : NoAttr K C "work"
  nP : NoAttr K C "patterns"
  mgC : mg "Stage" = some (.ref C)
/-- a stage: where it stands, its dicts and what they hold, its patterns -/
structure Sta where
  r : Addr
  dl : Addr
  ds : Addr
  dw : Addr
  L : Files
  S : Files
  W : Files
  P : List Str
def Sta.ad (s : Sta) : List Addr := [s.r, s.dl, s.ds, s.dw]
structure SAt (C : Addr) (H : Hp) (s : Sta) : Prop where
  ob : ∃ dx p, H s.r = some (.ins C dx (flds (.ref s.dl) (.ref s.ds) (.ref s.dw) (.ref p))) ∧ H p = some (.tup (s.P.map V.str))
  el : H s.dl = some (.dK (fk s.L))
  es : H s.ds = some (.dK (fk s.S))
  ew : H s.dw = some (.dK (fk s.W))
  ls : s.dl ≠ s.ds
  lw : s.dl ≠ s.dw
  sw : s.ds ≠ s.dw
theorem SAt.ext {C : Addr} {T : Tb} {X : List Addr} {H H' : Hp} {s : Sta} (a : SAt C H s) (g : GoE T X H H') (n : ∀ b ∈ s.ad, b ∉ X) : SAt C H' s := by
  obtain ⟨⟨dx, p, e, ep⟩, el, es, ew, h1, h2, h3⟩ := a
  exact ⟨⟨dx, p, g.at e (n _ (by simp [Sta.ad])), g.t _ _ ep⟩, g.at el (n _ (by simp [Sta.ad])), g.at es (n _ (by simp [Sta.ad])), g.at ew (n _ (by simp [Sta.ad])), h1, h2, h3⟩
theorem SAt.go {C : Addr} {T : Tb} {H H' : Hp} {s : Sta} (a : SAt C H s) (g : Go T H H') : SAt C H' s := a.ext g fun b _ => by simp
theorem SAt.nrl {C : Addr} {H : Hp} {s : Sta} (a : SAt C H s) : s.r ≠ s.dl := by
  obtain ⟨⟨dx, p, e, ep⟩, el, _⟩ := a
  exact ne_of e el (by intro z; cases z)
theorem SAt.nrs {C : Addr} {H : Hp} {s : Sta} (a : SAt C H s) : s.r ≠ s.ds := by
  obtain ⟨⟨dx, p, e, ep⟩, el, es, _⟩ := a
  exact ne_of e es (by intro z; cases z)
theorem SAt.nrw {C : Addr} {H : Hp} {s : Sta} (a : SAt C H s) : s.r ≠ s.dw := by
  obtain ⟨⟨dx, p, e, ep⟩, el, es, ew, _⟩ := a
  exact ne_of e ew (by intro z; cases z)
/-- what is not the stage's stays, and stays apart from it -/
def Stp (T : Tb) (H : Hp) (s : Sta) (H' : Hp) (s' : Sta) : Prop := (∀ b o, H b = some o → (∀ ps, o ≠ .tbl ps) → b ∉ s.ad → H' b = some o ∧ b ∉ s'.ad) ∧ ExtT H H' ∧ TOk T H'
theorem Stp.trans {T : Tb} {H H1 H2 : Hp} {s s1 s2 : Sta} (a : Stp T H s H1 s1) (b : Stp T H1 s1 H2 s2) : Stp T H s H2 s2 :=
  ⟨fun c o e n m => let ⟨x, y⟩ := a.1 c o e n m; b.1 c o x n y, a.2.1.trans b.2.1, b.2.2⟩
theorem Stp.refl {T : Tb} {H : Hp} {s : Sta} (t : TOk T H) : Stp T H s H s := ⟨fun _ _ e _ m => ⟨e, m⟩, ExtT.refl, t⟩
/-- in place, or by new things -/
theorem Stp.of {T : Tb} {C : Addr} {X : List Addr} {H H' : Hp} {s s' : Sta} (g : GoE T X H H') (hX : ∀ b ∈ X, b ∈ s.ad) (n : ∀ b ∈ s'.ad, b ∈ s.ad ∨ Fresh H b) : Stp T H s H' s' :=
  ⟨fun b o e nt m => ⟨g.at e (fun z => m (hX b z)) nt, fun z => (n b z).elim m fun f => by
    obtain ⟨ps, e2⟩ := f o e
    exact nt ps e2⟩, g.t, g.2⟩
end Sg
end Text_S12
section Text_S13
set_option Elab.async false
set_option linter.all false
set_option maxRecDepth 100000
set_option maxHeartbeats 4000000
namespace Sg
open PySem PySem.Spec PyProof.Rows L2 Gx GxR
theorem lk_fk (A : Files) (p : Str) : valV (fk A) (Sum.inr p) = (lk A p).map V.str := valV_fk A p
theorem fkn (A : Files) : (fk A).length = A.length := fk_len A
/-- what a method does to the stage -/
def spInit (C : Addr) (T : Tb) (CP : Addr) : Sp := fun vs H Q E => ∃ r dx a A, vs = [.ref r, .ref a] ∧ H r = some (.ins C dx []) ∧ H a = some (.dK (fk A)) ∧ fsm A ∧ TOk T H ∧ (badF A = true → ∀ H', GoE T [a] H H' → E (.ref CP) none H') ∧
  (badF A = false → ∀ H' d1 d2 d3, GoE T [r] H H' → Fresh H d1 → Fresh H d2 → Fresh H d3 → SAt C H' ⟨r, d1, d2, d3, A, A, A, []⟩ → Q .non H')
def spLeave (C : Addr) (T : Tb) (CG : Addr) : Sp := fun vs H Q E => ∃ (s : Sta) (t : Addr) (ps : List Str), vs = [.ref s.r, .ref t] ∧ SAt C H s ∧ H t = some (.tup (ps.map V.str)) ∧ TOk T H ∧ ((ps.any fun q => decide (q ∈ (["", "!"] : List Str))) = true → ∀ H', Go T H H' → E (.ref CG) none H') ∧
  ((ps.any fun q => decide (q ∈ (["", "!"] : List Str))) = false → ∀ H', Stp T H s H' { s with P := ps } → SAt C H' { s with P := ps } → Q .non H')
def spWrite (C : Addr) (T : Tb) (CP : Addr) : Sp := fun vs H Q E => ∃ (s : Sta) (p z : Str), vs = [.ref s.r, .str p, .str z] ∧ SAt C H s ∧ fsm (fPut s.W p z) ∧ TOk T H ∧ (badF (fPut s.W p z) = true → ∀ H', Go T H H' → E (.ref CP) none H') ∧
  (badF (fPut s.W p z) = false → ∀ H' dw, Stp T H s H' { s with dw := dw, W := fPut s.W p z } → SAt C H' { s with dw := dw, W := fPut s.W p z } → Q .non H')
def spErase (C : Addr) (T : Tb) (CG : Addr) : Sp := fun vs H Q E => ∃ (s : Sta) (p : Str), vs = [.ref s.r, .str p] ∧ SAt C H s ∧ TOk T H ∧ ((lk s.W p).isSome = false → ∀ H', Go T H H' → E (.ref CG) none H') ∧
  ((lk s.W p).isSome = true → ∀ H', Stp T H s H' { s with W := fDrop s.W p } → SAt C H' { s with W := fDrop s.W p } → Q .non H')
section
variable {P : Program} {w : World} {K : PySem.W.Frag} {mg : Str → Option Value} {base : Heap} {T : Tb} {C CP CG CS : Addr}
theorem scE : FnScope ["self", "path"] ["self", "path"] (defScope sErase) := ⟨rfl, rfl, rfl, by decide +kernel, rfl, by decide +kernel, by decide +kernel⟩
theorem ok_erase {f : Addr} {fd : FuncData} (F : Fun K "erase" "Stage.erase" sErase f fd) (L : Cl K mg C) (X : Er K mg CP CG CS) : FnOk P w K mg base (L2.CX P w) 1 f fd ["self", "path"] (spErase C T CG) := by
  refine F.okX scE (fun vs H Q E h => ?_) (fun cdv A0 outer sh H vs Q E hr h => ?_)
  · obtain ⟨s, p, rfl, _⟩ := h
    rfl
  · obtain ⟨s, p, rfl, sa, tk, k1, k2⟩ := h
    have hu := hu_of hr
    refine ⟨_, pss_cons (ps_if (pt_cmp (pc_dnotin hu (pv 1) (pe_fld (pv 0) rfl)))
        (pss_one (ps_raise rfl (takes_of rfl rfl rfl rfl) (pmk_own PySem.F.excBase_ValueError X.G.x X.G.g X.G.k (raises_own X.G.b X.G.t) rfl))) pss_nil)
      (pss_one (ps_ddel (pe_fld (pv 0) rfl) (pv 1))), ?_⟩
    obtain ⟨⟨dx, tp, er, ep⟩, el, es, ew, h1, h2, h3⟩ := id sa
    refine ⟨_, rfl, _, rfl, s.r, C, dx, _, _, rfl, er, L.cl, L.nW, look_w, s.dw, _, rfl, DGet.k (k := Sum.inr p) ew, _, rfl, ?_⟩
    rw [lk_fk]
    cases e : lk s.W p with
    | none => exact iteT (k1 (by rw [e]; rfl) _ (GoE.refl tk))
    | some z =>
      refine iteF ⟨_, rfl, s.r, C, dx, _, _, rfl, er, L.cl, L.nW, look_w, _, rfl, s.dw, fk s.W, Sum.inr p, rfl, ew, rfl, by rw [lk_fk, e]; rfl, ?_⟩
      rw [fk_drop]
      have g : GoE T [s.dw] H (upd H s.dw (.dK (fk (fDrop s.W p)))) := go_set tk ew mu_dK (by simp)
      refine k2 (by rw [e]; rfl) _ (Stp.of (C := C) g (fun b hb => ?_) fun b hb => .inl hb) ⟨⟨dx, tp, g.at er (by simpa using sa.nrw), g.t _ _ ep⟩, g.at el (by simpa using h2), g.at es (by simpa using h3), upd_same, h1, h2, h3⟩
      rw [List.mem_singleton.mp hb]
      simp [Sta.ad]
end
end Sg
end Text_S13
section Text_S14
set_option Elab.async false
set_option linter.all false
set_option maxRecDepth 100000
set_option maxHeartbeats 4000000
namespace Sg
open PySem PySem.Spec PyProof.Rows L2 Gx GxR
theorem rd_of {H : Hp} {a : Addr} {u : HO} (h : H a = some u) : Rd H a u := .inl h
def spKeep (C : Addr) (T : Tb) : Sp := fun vs H Q _ => ∃ (s : Sta), vs = [.ref s.r] ∧ SAt C H s ∧ TOk T H ∧ ∀ H' dl d, Stp T H s H' { s with dl := dl, L := s.S } → SAt C H' { s with dl := dl, L := s.S } → H' d = some (.dK (fk s.S)) → Fresh H d → Q (.ref d) H'
def spRestore (C : Addr) (T : Tb) (CG : Addr) : Sp := fun vs H Q E => ∃ (s : Sta) (p : Str), vs = [.ref s.r, .str p] ∧ SAt C H s ∧ fsm s.W ∧ p.cps.toList.length ≤ 100 ∧ TOk T H ∧
  (((lk s.S p).isSome && !way s.W p) = false → ∀ H', Go T H H' → E (.ref CG) none H') ∧ (∀ z, lk s.S p = some z → way s.W p = false → ∀ H', Stp T H s H' { s with W := fPut s.W p z } → SAt C H' { s with W := fPut s.W p z } → Q .non H')
/-- staged anew from another table -/
def setOf (S A : Files) (p : Str) : Option Files := match lk A p with
  | none => some (fDrop S p)
  | some z => if way S p = true then none else some (fPut S p z)
def resetR (s : Sta) (p : Str) : Option Files := if (lk s.S p).isNone = true ∧ (lk s.L p).isNone = true then none else setOf s.S s.L p
def addR (s : Sta) (p : Str) : Option Files := if (lk s.W p).isNone = true ∧ (lk s.S p).isNone = true then none else if (lk s.S p).isNone = true ∧ leftOut s.P p = true then none else setOf s.S s.W p
def spReset (C : Addr) (T : Tb) (CG : Addr) : Sp := fun vs H Q E => ∃ (s : Sta) (p : Str), vs = [.ref s.r, .str p] ∧ SAt C H s ∧ fsm s.S ∧ p.cps.toList.length ≤ 100 ∧ TOk T H ∧
  (resetR s p = none → ∀ H', Go T H H' → E (.ref CG) none H') ∧ (∀ S', resetR s p = some S' → ∀ H', Stp T H s H' { s with S := S' } → SAt C H' { s with S := S' } → Q .non H')
def patsOk (ps : List Str) : Prop := ps.length ≤ 10 ∧ ∀ q ∈ ps, q.cps.toList.length ≤ 8
def spAdd (C : Addr) (T : Tb) (CG : Addr) : Sp := fun vs H Q E => ∃ (s : Sta) (p : Str), vs = [.ref s.r, .str p] ∧ SAt C H s ∧ fsm s.S ∧ lokP p ∧ patsOk s.P ∧ TOk T H ∧
  (addR s p = none → ∀ H', Go T H H' → E (.ref CG) none H') ∧ (∀ S', addR s p = some S' → ∀ H', Stp T H s H' { s with S := S' } → SAt C H' { s with S := S' } → Q .non H')
theorem SAt.setS {C : Addr} {T : Tb} {H G : Hp} {s : Sta} (a : SAt C H s) (g : Go T H G) (S' : Files) : Stp T H s (upd G s.ds (.dK (fk S'))) { s with S := S' } ∧ SAt C (upd G s.ds (.dK (fk S'))) { s with S := S' } := by
  have b := a.go g
  obtain ⟨⟨dx, tp, er, ep⟩, el, es, ew, h1, h2, h3⟩ := id b
  have w : GoE T [s.ds] G (upd G s.ds (.dK (fk S'))) := go_set g.2 es mu_dK (by simp)
  have gg := (Go.any (S := [s.ds]) g).trans w
  refine ⟨Stp.of (C := C) gg (fun b hb => ?_) fun b hb => .inl hb, ⟨dx, tp, w.at er (by simpa using b.nrs), w.t _ _ ep⟩, w.at el (by simpa using h1), upd_same, w.at ew (by simpa using Ne.symm h3), h1, h2, h3⟩
  rw [List.mem_singleton.mp hb]
  simp [Sta.ad]
theorem SAt.setW {C : Addr} {T : Tb} {H G : Hp} {s : Sta} (a : SAt C H s) (g : Go T H G) (W' : Files) : Stp T H s (upd G s.dw (.dK (fk W'))) { s with W := W' } ∧ SAt C (upd G s.dw (.dK (fk W'))) { s with W := W' } := by
  have b := a.go g
  obtain ⟨⟨dx, tp, er, ep⟩, el, es, ew, h1, h2, h3⟩ := id b
  have w : GoE T [s.dw] G (upd G s.dw (.dK (fk W'))) := go_set g.2 ew mu_dK (by simp)
  have gg := (Go.any (S := [s.dw]) g).trans w
  refine ⟨Stp.of (C := C) gg (fun b hb => ?_) fun b hb => .inl hb, ⟨dx, tp, w.at er (by simpa using b.nrw), w.t _ _ ep⟩, w.at el (by simpa using h2), w.at es (by simpa using h3), upd_same, h1, h2, h3⟩
  rw [List.mem_singleton.mp hb]
  simp [Sta.ad]
theorem dget_of {H : Hp} {d : Addr} {A : Files} {p z : Str} (h : H d = some (.dK (fk A))) (e : lk A p = some z) : DGet H d (.str p) (some (.str z)) := by
  have := DGet.k (k := Sum.inr p) h
  rw [lk_fk, e] at this
  exact this
section
variable {P : Program} {w : World} {K : PySem.W.Frag} {mg : Str → Option Value} {base : Heap} {T : Tb} {C CP CG CS : Addr}
theorem scR : FnScope ["self", "path"] ["self", "path"] (defScope sRestore) := ⟨rfl, rfl, rfl, by decide +kernel, rfl, by decide +kernel, by decide +kernel⟩
theorem ok_restore {f fY : Addr} {fd fdY : FuncData} (F : Fun K "restore" "Stage.restore" sRestore f fd) (L : Cl K mg C) (X : Er K mg CP CG CS) (GY : FnOk P w K mg base CX0 3 fY fdY ["files", "path"] (spWay T)) (mY : mg "in_way" = some (.ref fY))
    (kY : PySem.W.keepIn K (.ref fY) = true) (bY : Binds K fdY ["files", "path"] []) : FnOk P w K mg base (L2.CX P w) 4 f fd ["self", "path"] (spRestore C T CG) := by
  refine F.okX scR (fun vs H Q E h => ?_) (fun cdv A0 outer sh H vs Q E hr h => ?_)
  · obtain ⟨s, p, rfl, _⟩ := h
    rfl
  · obtain ⟨s, p, rfl, sa, sm, hp, tk, k1, k2⟩ := h
    have hu := hu_of hr
    refine ⟨_, pss_cons (ps_if (PW.pt (pw_or (pt_cmp (pc_dnotin hu (pv 1) (pe_fld (pv 0) rfl))) (pw_or1 (pt_val (pe_call GY hr rfl mY kY bY .nil pass0 (pa_cons (pe_fld (pv 0) rfl) (pa_cons (pv 1) pa_nil)))))))
        (pss_one (ps_raise rfl (takes_of rfl rfl rfl rfl) (pmk_own PySem.F.excBase_ValueError X.G.x X.G.g X.G.k (raises_own X.G.b X.G.t) rfl))) pss_nil)
      (pss_one (ps_dput hu (pe_fld (pv 0) rfl) (pv 1) (pe_dget hu (pe_fld (pv 0) rfl) (pv 1) (fun _ _ => rfl)) rfl)), ?_⟩
    obtain ⟨⟨dx, tp, er, ep⟩, el, es, ew, h1, h2, h3⟩ := id sa
    refine ⟨_, rfl, _, rfl, s.r, C, dx, _, _, rfl, er, L.cl, L.nS, look_s, s.ds, _, rfl, DGet.k (k := Sum.inr p) es, _, rfl, ?_⟩
    rw [lk_fk]
    cases e : lk s.S p with
    | none => exact iteT (iteT (k1 (by rw [e]; rfl) _ (GoE.refl tk)))
    | some z =>
      refine iteF ⟨_, rfl, s.r, C, dx, _, _, rfl, er, L.cl, L.nW, look_w, _, rfl, s.dw, p, s.W, rfl, ew, sm, hp, tk, fun G g => ⟨_, rfl, ?_⟩⟩
      cases ey : way s.W p with
      | true => exact iteT (k1 (by rw [e, ey]; rfl) _ g)
      | false =>
        have sg := sa.go g
        obtain ⟨⟨dx2, tp2, er2, ep2⟩, el2, es2, ew2, _⟩ := id sg
        have q := sa.setW g (fPut s.W p z)
        refine iteF ⟨_, rfl, s.r, C, dx2, _, _, rfl, er2, L.cl, L.nS, look_s, _, rfl, s.ds, _, rfl, dget_of es2 e, _, rfl, s.r, C, dx2, _, _, rfl, er2, L.cl, L.nW, look_w, _, rfl, s.dw, _, rfl, DPut.k (k := Sum.inr p) ew2 (by rw [fkn, sizeLine_eq]; have := sm.1; omega), ?_⟩
        rw [fk_put]
        exact k2 z e ey _ q.1 q.2
theorem scRs : FnScope ["self", "path"] ["self", "path"] (defScope sReset) := ⟨rfl, rfl, rfl, by decide +kernel, rfl, by decide +kernel, by decide +kernel⟩
theorem ok_reset {f fY : Addr} {fd fdY : FuncData} (F : Fun K "reset" "Stage.reset" sReset f fd) (L : Cl K mg C) (X : Er K mg CP CG CS) (GY : FnOk P w K mg base CX0 3 fY fdY ["files", "path"] (spWay T)) (mY : mg "in_way" = some (.ref fY))
    (kY : PySem.W.keepIn K (.ref fY) = true) (bY : Binds K fdY ["files", "path"] []) : FnOk P w K mg base (L2.CX P w) 4 f fd ["self", "path"] (spReset C T CG) := by
  refine F.okX scRs (fun vs H Q E h => ?_) (fun cdv A0 outer sh H vs Q E hr h => ?_)
  · obtain ⟨s, p, rfl, _⟩ := h
    rfl
  · obtain ⟨s, p, rfl, sa, sm, hp, tk, k1, k2⟩ := h
    have hu := hu_of hr
    refine ⟨_, pss_cons (ps_if (PW.pt (pw_and (pt_cmp (pc_dnotin hu (pv 1) (pe_fld (pv 0) rfl))) (pw_and1 (pt_cmp (pc_dnotin hu (pv 1) (pe_fld (pv 0) rfl))))))
        (pss_one (ps_raise rfl (takes_of rfl rfl rfl rfl) (pmk_own PySem.F.excBase_ValueError X.G.x X.G.g X.G.k (raises_own X.G.b X.G.t) rfl))) pss_nil)
      (pss_one (ps_if (pt_cmp (pc_din hu (pv 1) (pe_fld (pv 0) rfl)))
        (pss_cons (ps_if (pt_val (pe_call GY hr rfl mY kY bY .nil pass0 (pa_cons (pe_fld (pv 0) rfl) (pa_cons (pv 1) pa_nil))))
          (pss_one (ps_raise rfl (takes_of rfl rfl rfl rfl) (pmk_own PySem.F.excBase_ValueError X.G.x X.G.g X.G.k (raises_own X.G.b X.G.t) rfl))) pss_nil)
          (pss_one (ps_dput hu (pe_fld (pv 0) rfl) (pv 1) (pe_dget hu (pe_fld (pv 0) rfl) (pv 1) (fun _ _ => rfl)) rfl)))
        (pss_one (ps_ddel (pe_fld (pv 0) rfl) (pv 1))))), ?_⟩
    obtain ⟨⟨dx, tp, er, ep⟩, el, es, ew, h1, h2, h3⟩ := id sa
    have din : ∀ {A : Files} {d : Addr}, H d = some (.dK (fk A)) → DGet H d (.str p) ((lk A p).map V.str) := fun h => by have := DGet.k (k := Sum.inr p) h; rw [lk_fk] at this; exact this
    refine ⟨_, rfl, _, rfl, s.r, C, dx, _, _, rfl, er, L.cl, L.nS, look_s, s.ds, _, rfl, din es, _, rfl, ?_⟩
    cases eS : lk s.S p with
    | none =>
      refine iteT ⟨_, rfl, _, rfl, s.r, C, dx, _, _, rfl, er, L.cl, L.nL, look_l, s.dl, _, rfl, din el, _, rfl, ?_⟩
      cases eL : lk s.L p with
      | none => exact iteT (k1 (by unfold resetR; rw [eS, eL]; rfl) _ (GoE.refl tk))
      | some z =>
        refine iteF ⟨_, rfl, _, rfl, s.r, C, dx, _, _, rfl, er, L.cl, L.nL, look_l, s.dl, _, rfl, din el, _, rfl, ?_⟩
        rw [eL]
        refine iteT ⟨_, rfl, s.r, C, dx, _, _, rfl, er, L.cl, L.nS, look_s, _, rfl, s.ds, p, s.S, rfl, es, sm, hp, tk, fun G g => ⟨_, rfl, ?_⟩⟩
        cases ey : way s.S p with
        | true => exact iteT (k1 (by unfold resetR setOf; rw [eL, ey]; simp [eS]) _ g)
        | false =>
          obtain ⟨⟨dx2, tp2, er2, ep2⟩, el2, es2, ew2, _⟩ := id (sa.go g)
          have q := sa.setS g (fPut s.S p z)
          refine iteF ⟨_, rfl, s.r, C, dx2, _, _, rfl, er2, L.cl, L.nL, look_l, _, rfl, s.dl, _, rfl, dget_of el2 eL, _, rfl, s.r, C, dx2, _, _, rfl, er2, L.cl, L.nS, look_s, _, rfl, s.ds, _, rfl, DPut.k (k := Sum.inr p) es2 (by rw [fkn, sizeLine_eq]; have := sm.1; omega), ?_⟩
          rw [fk_put]
          exact k2 _ (by unfold resetR setOf; rw [eL, ey]; simp [eS]) _ q.1 q.2
    | some y =>
      refine iteF ⟨_, rfl, _, rfl, s.r, C, dx, _, _, rfl, er, L.cl, L.nL, look_l, s.dl, _, rfl, din el, _, rfl, ?_⟩
      cases eL : lk s.L p with
      | some z =>
        refine iteT ⟨_, rfl, s.r, C, dx, _, _, rfl, er, L.cl, L.nS, look_s, _, rfl, s.ds, p, s.S, rfl, es, sm, hp, tk, fun G g => ⟨_, rfl, ?_⟩⟩
        cases ey : way s.S p with
        | true => exact iteT (k1 (by unfold resetR setOf; rw [eL, ey]; simp [eS]) _ g)
        | false =>
          obtain ⟨⟨dx2, tp2, er2, ep2⟩, el2, es2, ew2, _⟩ := id (sa.go g)
          have q := sa.setS g (fPut s.S p z)
          refine iteF ⟨_, rfl, s.r, C, dx2, _, _, rfl, er2, L.cl, L.nL, look_l, _, rfl, s.dl, _, rfl, dget_of el2 eL, _, rfl, s.r, C, dx2, _, _, rfl, er2, L.cl, L.nS, look_s, _, rfl, s.ds, _, rfl, DPut.k (k := Sum.inr p) es2 (by rw [fkn, sizeLine_eq]; have := sm.1; omega), ?_⟩
          rw [fk_put]
          exact k2 _ (by unfold resetR setOf; rw [eL, ey]; simp [eS]) _ q.1 q.2
      | none =>
        refine iteF ⟨_, rfl, s.r, C, dx, _, _, rfl, er, L.cl, L.nS, look_s, _, rfl, s.ds, fk s.S, Sum.inr p, rfl, es, rfl, by rw [lk_fk, eS]; rfl, ?_⟩
        rw [fk_drop]
        have q := sa.setS (GoE.refl tk) (fDrop s.S p)
        exact k2 _ (by unfold resetR setOf; rw [eL]; simp [eS]) _ q.1 q.2
theorem scK : FnScope ["self"] ["self"] (defScope sKeep) := ⟨rfl, rfl, rfl, by decide +kernel, rfl, by decide +kernel, by decide +kernel⟩
theorem ok_keep {f : Addr} {fd : FuncData} (F : Fun K "keep" "Stage.keep" sKeep f fd) (L : Cl K mg C) (Y : Tx K mg) : FnOk P w K mg base CX0 1 f fd ["self"] (spKeep C T) := by
  refine F.ok scK (fun vs H Q E h => ?_) (fun cdv A0 outer sh H vs Q E hr h => ?_)
  · obtain ⟨s, rfl, _⟩ := h
    rfl
  · obtain ⟨s, rfl, sa, tk, k⟩ := h
    refine ⟨_, pss_cons (ps_fld (pv 0) (pe_callTy call_dictD (by rfl) Y.dict (by decide +kernel) (pa_cons (pe_fld (pv 0) rfl) pa_nil)) rfl)
      (pss_one (ps_ret (pe_callTy call_dictD (by rfl) Y.dict (by decide +kernel) (pa_cons (pe_fld (pv 0) rfl) pa_nil)))), ?_⟩
    obtain ⟨⟨dx, tp, er, ep⟩, el, es, ew, h1, h2, h3⟩ := id sa
    refine ⟨_, rfl, s.r, C, dx, _, _, rfl, er, L.cl, L.nS, look_s, s.ds, _, rfl, rd_of es, fun d1 hd1 => ⟨_, rfl, s.r, C, dx, _, rfl, by rw [upd_ne (ne_of_none er hd1)]; exact er, L.cl, L.nL, by show 4 < 1000; decide, ?_⟩⟩
    have w1 : Go T H (upd H d1 (.dK (fk s.S))) := go_upd tk hd1
    have er1 := w1.at er
    have ed1 : upd H d1 (.dK (fk s.S)) d1 = some (.dK (fk s.S)) := upd_same
    have f1 : Fresh H d1 := fresh_none hd1
    have sa1 := sa.go w1
    have n1 : d1 ≠ s.r := (ne_of_none er hd1).symm
    have n2 : d1 ≠ s.ds := (ne_of_none es hd1).symm
    have n3 : d1 ≠ s.dw := (ne_of_none ew hd1).symm
    generalize upd H d1 (.dK (fk s.S)) = H1 at w1 er1 ed1 sa1 ⊢
    rw [put_l]
    have w2 : GoE T [s.r] H1 (upd H1 s.r (.ins C dx (flds (.ref d1) (.ref s.ds) (.ref s.dw) (.ref tp)))) := go_set w1.2 er1 mu_ins (by simp)
    have er2 : upd H1 s.r (.ins C dx (flds (.ref d1) (.ref s.ds) (.ref s.dw) (.ref tp))) s.r = some (.ins C dx (flds (.ref d1) (.ref s.ds) (.ref s.dw) (.ref tp))) := upd_same
    obtain ⟨_, el1, es1, ew1, _⟩ := id sa1
    have es2 := w2.at es1 (by simpa using Ne.symm sa.nrs)
    have ew2 := w2.at ew1 (by simpa using Ne.symm sa.nrw)
    have ed2 := w2.at ed1 (by simpa using n1)
    have ep2 := w2.t _ _ (w1.t _ _ ep)
    have w12 : GoE T [s.r] H _ := (Go.any w1).trans w2
    generalize upd H1 s.r (.ins C dx (flds (.ref d1) (.ref s.ds) (.ref s.dw) (.ref tp))) = H2 at w2 er2 es2 ew2 ed2 ep2 w12 ⊢
    refine ⟨_, rfl, s.r, C, dx, _, _, rfl, er2, L.cl, L.nL, look_l, d1, _, rfl, rd_of ed2, fun d2 hd2 => ?_⟩
    have w3 : Go T H2 (upd H2 d2 (.dK (fk s.S))) := go_upd w2.2 hd2
    have f2 : Fresh H d2 := fun u e => by
      refine Classical.byContradiction fun nt => ?_
      have nt : ∀ ps, u ≠ .tbl ps := fun ps z => nt ⟨ps, z⟩
      by_cases z : d2 = s.r
      · rw [z, er2] at hd2; cases hd2
      · have := w12.at e (by simpa using z) nt
        rw [hd2] at this
        cases this
    have sa2 : SAt C H2 { s with dl := d1, L := s.S } := ⟨⟨dx, tp, er2, ep2⟩, ed2, es2, ew2, n2, n3, h3⟩
    refine k _ d1 d2 ((Stp.of (C := C) (s' := { s with dl := d1, L := s.S }) w12 (fun b hb => ?_) fun b hb => ?_).trans ?_) (sa2.go w3) upd_same f2
    · rw [List.mem_singleton.mp hb]
      simp [Sta.ad]
    · simp only [Sta.ad, List.mem_cons, List.not_mem_nil, or_false] at hb ⊢
      rcases hb with rfl | rfl | rfl | rfl
      · exact .inl (.inl rfl)
      · exact .inr f1
      · exact .inl (.inr (.inr (.inl rfl)))
      · exact .inl (.inr (.inr (.inr rfl)))
    · exact Stp.of (C := C) w3 (fun b hb => absurd hb (by simp)) fun b hb => .inl hb
end
end Sg
end Text_S14
section Text_S15
set_option Elab.async false
set_option linter.all false
set_option maxRecDepth 100000
set_option maxHeartbeats 4000000
namespace Sg
open PySem PySem.Spec PyProof.Rows L2 Gx GxR
theorem fresh_in {T : Tb} {X : List Addr} {H G : Hp} {d : Addr} (g : GoE T X H G) (hd : G d = none) (hX : ∀ b ∈ X, ∃ o, G b = some o) : Fresh H d := fun u e => by
  refine Classical.byContradiction fun nt => ?_
  have nt : ∀ ps, u ≠ .tbl ps := fun ps z => nt ⟨ps, z⟩
  have := g.at e (fun z => by
    obtain ⟨o, e2⟩ := hX d z
    rw [hd] at e2
    cases e2) nt
  rw [hd] at this
  cases this
section
variable {P : Program} {w : World} {K : PySem.W.Frag} {mg : Str → Option Value} {base : Heap} {T : Tb} {C CP CG CS : Addr}
theorem scWr : FnScope ["self", "path", "text", "files"] ["self", "path", "text"] (defScope sWrite) := ⟨rfl, rfl, rfl, by decide +kernel, rfl, by decide +kernel, by decide +kernel⟩
theorem ok_write {f fF : Addr} {fd fdF : FuncData} (F : Fun K "write" "Stage.write" sWrite f fd) (L : Cl K mg C) (Y : Tx K mg) (GF : FnOk P w K mg base (L2.CX P w) 4 fF fdF ["files"] (spFiles T CP)) (mF : mg "check_files" = some (.ref fF))
    (kF : PySem.W.keepIn K (.ref fF) = true) (bF : Binds K fdF ["files"] []) : FnOk P w K mg base (L2.CX P w) 5 f fd ["self", "path", "text"] (spWrite C T CP) := by
  refine F.okX scWr (fun vs H Q E h => ?_) (fun cdv A0 outer sh H vs Q E hr h => ?_)
  · obtain ⟨s, p, z, rfl, _⟩ := h
    rfl
  · obtain ⟨s, p, z, rfl, sa, sm, tk, k1, k2⟩ := h
    have hu := hu_of hr
    refine ⟨_, pss_cons (ps_set (i := 3) scWr.nd rfl (Or.inl rfl) (pe_callTy call_dictD (by rfl) Y.dict (by decide +kernel) (pa_cons (pe_fld (pv 0) rfl) pa_nil)))
      (pss_cons (ps_dput hu (pv 3) (pv 1) (pv 2) rfl)
      (pss_cons (ps_lock (ps_expr (pe_call GF hr rfl mF kF bF .nil (passes_call (takes_of rfl rfl rfl rfl) (fun _ _ _ _ e => e)) (pa_cons (pv 3) pa_nil))))
      (pss_one (ps_fld (pv 0) (pv 3) rfl)))), ?_⟩
    obtain ⟨⟨dx, tp, er, ep⟩, el, es, ew, h1, h2, h3⟩ := id sa
    have hW : s.W.length ≤ 101 := by
      have a := sm.1
      unfold fPut at a
      split at a
      · rw [List.length_map] at a; omega
      · rw [List.length_append] at a; omega
    refine ⟨_, rfl, s.r, C, dx, _, _, rfl, er, L.cl, L.nW, look_w, s.dw, _, rfl, rd_of ew, fun d hd => ?_⟩
    have w1 : Go T H (upd H d (.dK (fk s.W))) := go_upd tk hd
    have f1 : Fresh H d := fresh_none hd
    have n1 : s.r ≠ d := ne_of_none er hd
    have n2 : s.dl ≠ d := ne_of_none el hd
    have n3 : s.ds ≠ d := ne_of_none es hd
    refine ⟨_, rfl, _, rfl, _, rfl, d, _, rfl, DPut.k (k := Sum.inr p) upd_same (by rw [fkn, sizeLine_eq]; omega), ?_⟩
    rw [upd_upd, fk_put]
    have w2 : Go T H (upd H d (.dK (fk (fPut s.W p z)))) := go_upd tk hd
    have ed : upd H d (.dK (fk (fPut s.W p z))) d = some (.dK (fk (fPut s.W p z))) := upd_same
    generalize upd H d (.dK (fk (fPut s.W p z))) = H2 at w2 ed ⊢
    refine ⟨d, _, ed, trivial, fun od => ⟨_, rfl, d, od, fPut s.W p z, rfl, upd_same, sm, ?_, ?_, ?_⟩⟩
    · exact (go_set (S := [d]) w2.2 ed mu_dK (by simp)).2
    all_goals have w3 : GoE T [d] H2 (upd H2 d (.frz od (.dK (fk (fPut s.W p z))))) := go_set w2.2 ed mu_dK (by simp)
    · intro hb G g
      exact k1 hb _ (GoE.news w2 (w3.trans (Go.any g)) fun b hb => by rw [List.mem_singleton.mp hb]; exact f1)
    · intro hb G g
      have ef : G d = some (.frz od (.dK (fk (fPut s.W p z)))) := g.at upd_same
      refine ⟨ef, ?_⟩
      have w4 : Go T H2 (upd G d (.dK (fk (fPut s.W p z)))) := go_back w2.2 ed (w3.trans (Go.any g)) ef mu_frz
      have ed4 : upd G d (.dK (fk (fPut s.W p z))) d = some (.dK (fk (fPut s.W p z))) := upd_same
      generalize upd G d (.dK (fk (fPut s.W p z))) = G4 at w4 ed4 ⊢
      have w24 := w2.trans w4
      have er4 := w24.at er
      refine ⟨_, rfl, _, rfl, s.r, C, dx, _, rfl, er4, L.cl, L.nW, by show 4 < 1000; decide, ?_⟩
      rw [put_w]
      have w5 : GoE T [s.r] G4 (upd G4 s.r (.ins C dx (flds (.ref s.dl) (.ref s.ds) (.ref d) (.ref tp)))) := go_set w24.2 er4 mu_ins (by simp)
      have w25 : GoE T [s.r] H _ := (Go.any w24).trans w5
      refine k2 hb _ d (Stp.of (C := C) w25 (fun b hb => ?_) fun b hb => ?_) ⟨⟨dx, tp, upd_same, w25.t _ _ ep⟩, w25.at el (by simpa using Ne.symm sa.nrl), w25.at es (by simpa using Ne.symm sa.nrs), w5.at ed4 (by simpa using Ne.symm n1), h1, n2, n3⟩
      · rw [List.mem_singleton.mp hb]
        simp [Sta.ad]
      · simp only [Sta.ad, List.mem_cons, List.not_mem_nil, or_false] at hb ⊢
        rcases hb with rfl | rfl | rfl | rfl
        · exact .inl (.inl rfl)
        · exact .inl (.inr (.inl rfl))
        · exact .inl (.inr (.inr (.inl rfl)))
        · exact .inr f1
theorem scAd : FnScope ["self", "path"] ["self", "path"] (defScope sAdd) := ⟨rfl, rfl, rfl, by decide +kernel, rfl, by decide +kernel, by decide +kernel⟩
theorem ok_add {f fY fO : Addr} {fd fdY fdO : FuncData} (F : Fun K "add" "Stage.add" sAdd f fd) (L : Cl K mg C) (X : Er K mg CP CG CS) (GY : FnOk P w K mg base CX0 3 fY fdY ["files", "path"] (spWay T)) (mY : mg "in_way" = some (.ref fY))
    (kY : PySem.W.keepIn K (.ref fY) = true) (bY : Binds K fdY ["files", "path"] []) (GO : FnOk P w K mg base CX0 21 fO fdO ["patterns", "path"] (spLeft T)) (mO : mg "left_out" = some (.ref fO))
    (kO : PySem.W.keepIn K (.ref fO) = true) (bO : Binds K fdO ["patterns", "path"] []) : FnOk P w K mg base (L2.CX P w) 22 f fd ["self", "path"] (spAdd C T CG) := by
  refine F.okX scAd (fun vs H Q E h => ?_) (fun cdv A0 outer sh H vs Q E hr h => ?_)
  · obtain ⟨s, p, rfl, _⟩ := h
    rfl
  · obtain ⟨s, p, rfl, sa, sm, lok, pok, tk, k1, k2⟩ := h
    have hu := hu_of hr
    have hp := lok.1
    refine ⟨_, pss_cons (ps_if (PW.pt (pw_and (pt_cmp (pc_dnotin hu (pv 1) (pe_fld (pv 0) rfl))) (pw_and1 (pt_cmp (pc_dnotin hu (pv 1) (pe_fld (pv 0) rfl))))))
        (pss_one (ps_raise rfl (takes_of rfl rfl rfl rfl) (pmk_own PySem.F.excBase_ValueError X.G.x X.G.g X.G.k (raises_own X.G.b X.G.t) rfl))) pss_nil)
      (pss_cons (ps_if (PW.pt (pw_and (pt_cmp (pc_dnotin hu (pv 1) (pe_fld (pv 0) rfl))) (pw_and1 (pt_val (pe_call GO hr rfl mO kO bO .nil pass0 (pa_cons (pe_fld (pv 0) rfl) (pa_cons (pv 1) pa_nil)))))))
        (pss_one (ps_raise rfl (takes_of rfl rfl rfl rfl) (pmk_own PySem.F.excBase_ValueError X.G.x X.G.g X.G.k (raises_own X.G.b X.G.t) rfl))) pss_nil)
      (pss_one (ps_if (pt_cmp (pc_dnotin hu (pv 1) (pe_fld (pv 0) rfl)))
        (pss_one (ps_ddel (pe_fld (pv 0) rfl) (pv 1)))
        (pss_cons (ps_if (pt_val (pe_call GY (hr.mono (by decide)) rfl mY kY bY .nil pass0 (pa_cons (pe_fld (pv 0) rfl) (pa_cons (pv 1) pa_nil))))
          (pss_one (ps_raise rfl (takes_of rfl rfl rfl rfl) (pmk_own PySem.F.excBase_ValueError X.G.x X.G.g X.G.k (raises_own X.G.b X.G.t) rfl))) pss_nil)
          (pss_one (ps_dput hu (pe_fld (pv 0) rfl) (pv 1) (pe_dget hu (pe_fld (pv 0) rfl) (pv 1) (fun _ _ => rfl)) rfl)))))), ?_⟩
    obtain ⟨⟨dx, tp, er, ep⟩, el, es, ew, h1, h2, h3⟩ := id sa
    have din : ∀ {A : Files} {d : Addr} {G : Hp}, G d = some (.dK (fk A)) → DGet G d (.str p) ((lk A p).map V.str) := fun h => by have := DGet.k (k := Sum.inr p) h; rw [lk_fk] at this; exact this
    refine ⟨_, rfl, _, rfl, s.r, C, dx, _, _, rfl, er, L.cl, L.nW, look_w, s.dw, _, rfl, din ew, _, rfl, ?_⟩
    cases eW : lk s.W p with
    | none =>
      refine iteT ⟨_, rfl, _, rfl, s.r, C, dx, _, _, rfl, er, L.cl, L.nS, look_s, s.ds, _, rfl, din es, _, rfl, ?_⟩
      cases eS : lk s.S p with
      | none => exact iteT (k1 (by unfold addR; rw [eW, eS]; rfl) _ (GoE.refl tk))
      | some y =>
        refine iteF ⟨_, rfl, _, rfl, s.r, C, dx, _, _, rfl, er, L.cl, L.nS, look_s, s.ds, _, rfl, din es, _, rfl, ?_⟩
        rw [eS]
        refine iteF ?_
        have g0 : Go T H H := GoE.refl tk
        obtain ⟨⟨dx1, tp1, er1, ep1⟩, el1, es1, ew1, _⟩ := id (sa.go g0)
        refine ⟨_, rfl, _, rfl, s.r, C, dx1, _, _, rfl, er1, L.cl, L.nW, look_w, s.dw, _, rfl, din ew1, _, rfl, ?_⟩
        rw [eW]
        refine iteT ⟨_, rfl, s.r, C, dx1, _, _, rfl, er1, L.cl, L.nS, look_s, _, rfl, s.ds, fk s.S, Sum.inr p, rfl, es1, rfl, by rw [lk_fk, eS]; rfl, ?_⟩
        rw [fk_drop]
        have q := sa.setS g0 (fDrop s.S p)
        exact k2 _ (by unfold addR setOf; rw [eW]; simp [eS]) _ q.1 q.2
    | some z =>
      refine iteF ⟨_, rfl, _, rfl, s.r, C, dx, _, _, rfl, er, L.cl, L.nS, look_s, s.ds, _, rfl, din es, _, rfl, ?_⟩
      cases eS : lk s.S p with
      | some y =>
        refine iteF ?_
        have g0 : Go T H H := GoE.refl tk
        obtain ⟨⟨dx1, tp1, er1, ep1⟩, el1, es1, ew1, _⟩ := id (sa.go g0)
        refine ⟨_, rfl, _, rfl, s.r, C, dx1, _, _, rfl, er1, L.cl, L.nW, look_w, s.dw, _, rfl, din ew1, _, rfl, ?_⟩
        rw [eW]
        refine iteF ⟨_, rfl, s.r, C, dx1, _, _, rfl, er1, L.cl, L.nS, look_s, _, rfl, s.ds, p, s.S, rfl, es1, sm, hp, g0.2, fun G1 g1 => ⟨_, rfl, ?_⟩⟩
        have g := g0.trans g1
        cases ey : way s.S p with
        | true => exact iteT (k1 (by unfold addR setOf; rw [eW, ey]; simp [eS]) _ g)
        | false =>
          obtain ⟨⟨dx2, tp2, er2, ep2⟩, el2, es2, ew2, _⟩ := id (sa.go g)
          have q := sa.setS g (fPut s.S p z)
          refine iteF ⟨_, rfl, s.r, C, dx2, _, _, rfl, er2, L.cl, L.nW, look_w, _, rfl, s.dw, _, rfl, dget_of ew2 eW, _, rfl, s.r, C, dx2, _, _, rfl, er2, L.cl, L.nS, look_s, _, rfl, s.ds, _, rfl, DPut.k (k := Sum.inr p) es2 (by rw [fkn, sizeLine_eq]; have := sm.1; omega), ?_⟩
          rw [fk_put]
          exact k2 _ (by unfold addR setOf; rw [eW, ey]; simp [eS]) _ q.1 q.2
      | none =>
        refine iteT ⟨_, rfl, s.r, C, dx, _, _, rfl, er, L.cl, L.nP, look_p, _, rfl, tp, p, s.P, rfl, ep, pok.1, pok.2, lok, tk, fun G0 g0 => ⟨_, rfl, ?_⟩⟩
        cases eO : leftOut s.P p with
        | true => exact iteT (k1 (by unfold addR; rw [eW, eS, eO]; simp) _ g0)
        | false =>
          refine iteF ?_
          obtain ⟨⟨dx1, tp1, er1, ep1⟩, el1, es1, ew1, _⟩ := id (sa.go g0)
          refine ⟨_, rfl, _, rfl, s.r, C, dx1, _, _, rfl, er1, L.cl, L.nW, look_w, s.dw, _, rfl, din ew1, _, rfl, ?_⟩
          rw [eW]
          refine iteF ⟨_, rfl, s.r, C, dx1, _, _, rfl, er1, L.cl, L.nS, look_s, _, rfl, s.ds, p, s.S, rfl, es1, sm, hp, g0.2, fun G1 g1 => ⟨_, rfl, ?_⟩⟩
          have g := g0.trans g1
          cases ey : way s.S p with
          | true => exact iteT (k1 (by unfold addR setOf; rw [eW, ey]; simp [eS, eO]) _ g)
          | false =>
            obtain ⟨⟨dx2, tp2, er2, ep2⟩, el2, es2, ew2, _⟩ := id (sa.go g)
            have q := sa.setS g (fPut s.S p z)
            refine iteF ⟨_, rfl, s.r, C, dx2, _, _, rfl, er2, L.cl, L.nW, look_w, _, rfl, s.dw, _, rfl, dget_of ew2 eW, _, rfl, s.r, C, dx2, _, _, rfl, er2, L.cl, L.nS, look_s, _, rfl, s.ds, _, rfl, DPut.k (k := Sum.inr p) es2 (by rw [fkn, sizeLine_eq]; have := sm.1; omega), ?_⟩
            rw [fk_put]
            exact k2 _ (by unfold addR setOf; rw [eW, ey]; simp [eS, eO]) _ q.1 q.2
end
end Sg
end Text_S15
section Text_S16
set_option Elab.async false
set_option linter.all false
set_option maxRecDepth 100000
set_option maxHeartbeats 4000000
namespace Sg
open PySem PySem.Spec PyProof.Rows L2 Gx GxR
def filesOk (A : Files) : Prop := A.length ≤ 10 ∧ ∀ q ∈ A, q.1.cps.toList.length ≤ 1000 ∧ okS q.1 ∧ okS q.2
theorem paths_mem {A B : Files} {p : Str} (h : p ∈ paths A B) : (∃ q ∈ A, q.1 = p) ∨ ∃ q ∈ B, q.1 = p := by
  have := (mem_so _ _).mp h
  rcases List.mem_append.mp this with h | h
  · obtain ⟨q, hq, e⟩ := List.mem_map.mp h
    exact .inl ⟨q, hq, e⟩
  · obtain ⟨q, hq, e⟩ := List.mem_map.mp h
    exact .inr ⟨q, hq, e⟩
theorem paths_ok {A B : Files} (hA : filesOk A) (hB : filesOk B) : ∀ p ∈ paths A B, p.cps.toList.length ≤ 1000 ∧ okS p := fun p hp => by
  rcases paths_mem hp with ⟨q, hq, e⟩ | ⟨q, hq, e⟩
  · rw [← e]; exact ⟨(hA.2 q hq).1, (hA.2 q hq).2.1⟩
  · rw [← e]; exact ⟨(hB.2 q hq).1, (hB.2 q hq).2.1⟩
theorem chgOf_snd {A B : Files} {p : Str} {r : Str × Str} (h : chgOf A B p = some r) : r.2 = p := by
  unfold chgOf at h
  split at h
  · cases h; rfl
  · cases h; rfl
  · split at h <;> cases h
    rfl
theorem chg_mem {A B : Files} {r : Str × Str} (h : r ∈ chg A B) : r.2 ∈ paths A B := by
  obtain ⟨p, hp, e⟩ := List.mem_filterMap.mp h
  rw [chgOf_snd e]
  exact hp
theorem chg_len (A B : Files) : (chg A B).length ≤ A.length + B.length := by
  refine Nat.le_trans (List.length_filterMap_le _ _) (Nat.le_trans (so_len _) ?_)
  rw [List.length_append, List.length_map, List.length_map]
  exact Nat.le_refl _
theorem lk_none {A : Files} {p : Str} (h : lk A p = none) : ∀ q ∈ A, q.1 ≠ p := fun q hq e => by
  unfold lk at h
  cases hf : A.find? fun q => decide (q.1 = p) with
  | none =>
    rw [List.find?_eq_none] at hf
    exact hf q hq (decide_eq_true e)
  | some u => rw [hf] at h; cases h
theorem lk_mem {A : Files} {p x : Str} (h : lk A p = some x) : ∃ q ∈ A, q.1 = p ∧ q.2 = x := by
  unfold lk at h
  cases hf : A.find? fun q => decide (q.1 = p) with
  | none => rw [hf] at h; cases h
  | some u =>
    rw [hf] at h
    have hq := List.find?_some hf
    have hq : u.1 = p := of_decide_eq_true hq
    exact ⟨u, List.mem_of_find?_eq_some hf, hq, Option.some.inj h⟩
theorem chg_ok {A B : Files} (hA : filesOk A) (hB : filesOk B) : ∀ r ∈ chg A B, okS r.1 ∧ okS r.2 := fun r h => by
  refine ⟨?_, (paths_ok hA hB _ (chg_mem h)).2⟩
  obtain ⟨p, hp, e⟩ := List.mem_filterMap.mp h
  unfold chgOf at e
  split at e
  · cases e; exact (by unfold okS; decide +kernel : okS "come")
  · cases e; exact (by unfold okS; decide +kernel : okS "gone")
  · split at e <;> cases e
    exact (by unfold okS; decide +kernel : okS "other")
def pairD (q : Str × Str) : PyData := .tuple [.str q.1, .str q.2]
theorem pl_chg {A B : Files} (hA : filesOk A) (hB : filesOk B) : Pl 2 (.tuple ((chg A B).map pairD)) = true := by
  show ((chg A B).map pairD).all (Pl 1) = true
  rw [List.all_eq_true]
  intro d hd
  obtain ⟨q, hq, rfl⟩ := List.mem_map.mp hd
  obtain ⟨h1, h2⟩ := chg_ok hA hB q hq
  show (Pl 0 (.str q.1) && (Pl 0 (.str q.2) && true)) = true
  have h1 : Pl 0 (.str q.1) = true := h1
  have h2 : Pl 0 (.str q.2) = true := h2
  rw [h1, h2]
  rfl
/-- files as the stage has them: few, each path once, short ones -/
structure fok (A : Files) : Prop where
  n : A.length ≤ 10
  q : ∀ q ∈ A, lokP q.1 ∧ okS q.1 ∧ okS q.2
  nd : (keysF A).Nodup
theorem fok.sm {A : Files} (h : fok A) : fsm A := ⟨by have := h.n; omega, fun p hp => by
  obtain ⟨q, hq, rfl⟩ := List.mem_map.mp hp
  exact (h.q q hq).1.1⟩
theorem fok.ok {A : Files} (h : fok A) : filesOk A := ⟨h.n, fun q hq => by
  have a := h.q q hq
  exact ⟨by have := a.1.1; omega, a.2.1, a.2.2⟩⟩
theorem eqv_self {n : Nat} {d : PyData} (h : Pl n d = true) : PyData.eqv d d = true := (pl_eqv n d d h h).mpr rfl
section
variable {X : Cx}
theorem pe_fldK (K : PySem.W.Frag) (hK : X.K = K) {o : Expr} {f : Str} {pos : Pos} {ta : TE} (ho : PE X o ta) (hbase : attributeBase o f X.env (eval o X.env) = eval o X.env := by rfl) : PE X (.Attribute o f pos) (tFld K ta f) := by
  rw [← hK]
  exact pe_fld ho hbase
theorem ix_tupK (K : PySem.W.Frag) (hK : X.K = K) : IxR X (rIxT K) := by
  rw [← hK]
  exact ix_tup
end
def freshOf (s : Sta) : List Str := ((chg s.S s.W).filter fun r => decide (r.1 = ("come" : Str)) && !leftOut s.P r.2).map (·.2)
def lyingOf (s : Sta) : List (Str × Str) := (chg s.S s.W).filter fun r => !decide (r.1 = ("come" : Str))
def cleanB (s : Sta) : Bool := decide (chg s.L s.S = []) && decide (lyingOf s = [])
structure sok (s : Sta) : Prop where
  fl : fok s.L
  fs : fok s.S
  fw : fok s.W
  fp : patsOk s.P
def spStat (C : Addr) (T : Tb) : Sp := fun vs H Q _ => ∃ (s : Sta), vs = [.ref s.r] ∧ SAt C H s ∧ sok s ∧ TOk T H ∧ ∀ H' t t1 t2 t3 xs1 xs2, Go T H H' → H' t = some (.tup [.ref t1, .ref t2, .ref t3]) → H' t1 = some (.tup xs1) → All2 (PairAt H') xs1 (chg s.L s.S) → H' t2 = some (.tup xs2) → All2 (PairAt H') xs2 (lyingOf s) →
  H' t3 = some (.tup ((freshOf s).map V.str)) → Q (.ref t) H'
def spClean (C : Addr) (T : Tb) : Sp := fun vs H Q _ => ∃ (s : Sta), vs = [.ref s.r] ∧ SAt C H s ∧ sok s ∧ TOk T H ∧ ∀ H', Go T H H' → Q (.bl (cleanB s)) H'
abbrev NSt : List Str := ["self", "lying", "what", "path", "fresh", "row"]
section
variable {P : Program} {w : World} {K : PySem.W.Frag} {mg : Str → Option Value} {base : Heap} {T : Tb} {C CP CG CS : Addr}
theorem scSt : FnScope NSt ["self"] (defScope sStatus) := ⟨rfl, rfl, rfl, by decide +kernel, rfl, by decide +kernel, by decide +kernel⟩
theorem ok_status {f c fC fO : Addr} {fd fdC fdO : FuncData} (F : FunC K "status" "Stage.status" sStatus f c fd) (L : Cl K mg C) (Y : Tx K mg) (bs : TabB base mg c T.st) (GC : FnOk P w K mg base CX0 1 fC fdC ["one", "other"] (spChg T)) (mC : mg "changes" = some (.ref fC)) (kC : PySem.W.keepIn K (.ref fC) = true) (bC : Binds K fdC ["one", "other"] [])
    (GO : FnOk P w K mg base CX0 21 fO fdO ["patterns", "path"] (spLeft T)) (mO : mg "left_out" = some (.ref fO)) (kO : PySem.W.keepIn K (.ref fO) = true) (bO : Binds K fdO ["patterns", "path"] []) : FnOk P w K mg base CX0 22 f fd ["self"] (spStat C T) := by
  refine F.ok scSt (fun vs H Q E h => ?_) (fun A0 outer sh H vs Q E hr h => ?_)
  · obtain ⟨s, rfl, _⟩ := h
    rfl
  · obtain ⟨s, rfl, sa, so, tk, k1⟩ := h
    have hu := hu_of hr
    refine ⟨_, pss_cons (ps_set (i := 1) scSt.nd rfl (Or.inl rfl) (pe_call GC (hr.mono (by decide)) rfl mC kC bC .nil pass0 (pa_cons (pe_fld (pv 0) rfl) (pa_cons (pe_fld (pv 0) rfl) pa_nil))))
      (pss_cons (ps_setLc (i := 4) (own := [("what", 2), ("path", 3)]) rfl scSt.nd rfl rfl (sw_true rfl rfl rfl (by decide +kernel)) (pi_tup (pv 1)) (blkOk_by (N := NSt) (sc := defScope sStatus) (by decide +kernel))
          (fun _ _ _ _ _ => pg_tupK K 2 rfl rfl (pgs_cons (pg_name (i := 2) scSt.nd rfl (Or.inl rfl)) (pgs_cons (pg_name (i := 3) scSt.nd rfl (Or.inl rfl)) pgs_nil)))
          (fun _ _ _ _ _ => pts_one (PW.pt (pw_and (pt_cmpR op_eq (pv 2) pe_str (nomark _)) (pw_and1 (pt_not (pt_val (pe_call GO hr rfl mO kO bO .nil pass0 (pa_cons (pe_fldK K rfl (pv 0) rfl) (pa_cons (pv 3) pa_nil)))))))))
          (fun _ _ _ _ _ => pv 3))
      (pss_one (ps_ret (pe_tup (pa_cons (pe_call GC (hr.mono (by decide)) rfl mC kC bC .nil pass0 (pa_cons (pe_fld (pv 0) rfl) (pa_cons (pe_fld (pv 0) rfl) pa_nil)))
        (pa_cons (pe_tupleC (own := [("row", 5)]) (k := 1) (hr.mono (by decide)) rfl Y.tuple ⟨_, bs.bm⟩ (mkC_base bs rfl) scSt.nd (gOkC_by (N := NSt) (sc := defScope sStatus) (by decide +kernel)) (pi_tup (pv 1))
            ⟨fun _ _ _ _ _ _ _ _ => pg_name (i := 5) scSt.nd rfl (Or.inl rfl), fun _ _ _ _ _ _ _ _ => pts_one (pt_cmpR op_ne (pe_ix (ix_tupK K rfl) (pv 5) pe_int (fun _ _ => rfl)) pe_str (nomark _)), fun _ _ _ _ _ _ _ _ => pv 5⟩)
        (pa_cons (pe_callTy call_tuple_of (by rfl) Y.tuple (by decide +kernel) (pa_cons (pv 4) pa_nil)) pa_nil))))))), ?_⟩
    obtain ⟨⟨dx, tp, er, ep⟩, el, es, ew, h1, h2, h3⟩ := id sa
    refine ⟨_, rfl, s.r, C, dx, _, _, rfl, er, L.cl, L.nS, look_s, _, rfl, s.r, C, dx, _, _, rfl, er, L.cl, L.nW, look_w, s.ds, s.dw, s.S, s.W, rfl, es, ew, so.fs.n, so.fw.n, tk, fun G0 t0 xs g0 e0 al0 => ?_⟩
    have hcl : (chg s.S s.W).length ≤ 20 := by
      have a := chg_len s.S s.W
      have := so.fs.n
      have := so.fw.n
      omega
    refine ⟨_, rfl, t0, rfl, ⟨_, SqT.of e0⟩, fun D hD => ?_⟩
    have w1 : Go T G0 (upd G0 D (.lst [])) := go_upd g0.2 hD
    have fD : Fresh H D := fresh_of g0 hD
    have e1 := w1.t _ _ e0
    have al1 := al0.imp fun _ _ h => PairAt.ext h w1.t
    have pb : ∀ {i : Nat} {r : Str × Str}, (chg s.S s.W)[i]? = some r → (((chg s.S s.W).take (i + 1)).filter fun r => decide (r.1 = ("come" : Str)) && !leftOut s.P r.2) = (((chg s.S s.W).take i).filter fun r => decide (r.1 = ("come" : Str)) && !leftOut s.P r.2) ++ (if (decide (r.1 = ("come" : Str)) && !leftOut s.P r.2) = true then [r] else []) := fun {i r} h => by
      rw [take_snoc h, List.filter_append]
      congr 1
      by_cases z : (decide (r.1 = ("come" : Str)) && !leftOut s.P r.2) = true
      · rw [if_pos z]; simp only [List.filter_cons, List.filter_nil]; rw [if_pos z]
      · rw [if_neg z]; simp only [List.filter_cons, List.filter_nil]; rw [if_neg z]
    refine lc_tup (xs := xs) (fun i G => GoE T [D] (upd G0 D (.lst [])) G ∧ G D = some (.lst (((((chg s.S s.W).take i).filter fun r => decide (r.1 = ("come" : Str)) && !leftOut s.P r.2).map (·.2)).map V.str))) ⟨GoE.refl w1.2, upd_same⟩ (fun i G _ h => SqT.of (h.1.t _ _ e1)) (fun i x G hx h => ?_) (fun G h => ?_)
    · obtain ⟨g, eD⟩ := h
      obtain ⟨r, hr', t1, rfl, et1⟩ := al1.at hx
      have et1 := g.t _ _ et1
      have hm := List.mem_of_getElem? hr'
      have gg : Go T H G := GoE.news (g0.trans w1) g fun b hb => by rw [List.mem_singleton.mp hb]; exact fD
      have lok : lokP r.2 := by
        rcases paths_mem (chg_mem hm) with ⟨q, hq, e⟩ | ⟨q, hq, e⟩
        · rw [← e]; exact (so.fs.q q hq).1
        · rw [← e]; exact (so.fw.q q hq).1
      refine ⟨t1, _, rfl, SqT.of et1, rfl, _, _, rfl, _, _, rfl, rfl, rfl, _, rfl, rfl, _, rfl, orR (fun ec => ?_) (fun ec => ?_)⟩
      · have ec : r.1 = ("come" : Str) := V.str.inj (of_decide_eq_true ec)
        obtain ⟨⟨dx2, tp2, er2, ep2⟩, _⟩ := id (sa.go gg)
        refine ⟨_, rfl, s.r, C, dx2, _, _, rfl, er2, L.cl, L.nP, look_p, _, rfl, tp2, r.2, s.P, rfl, ep2, so.fp.1, so.fp.2, lok, gg.2, fun G2 g2 => ⟨_, rfl, ?_⟩⟩
        have eD2 := g2.at eD
        rw [pb hr', ec]
        cases eo : leftOut s.P r.2 with
        | true =>
          refine (if_neg (by decide)).mpr ⟨g.trans (Go.any g2), ?_⟩
          rw [if_neg (by simp), List.append_nil]
          exact eD2
        | false =>
          refine (if_pos rfl).mpr ⟨_, rfl, _, eD2, ?_, (g.trans (Go.any g2)).trans (go_set g2.2 eD2 mu_lst (by simp)), ?_⟩
          · rw [List.length_map, List.length_map, sizeLine_eq]
            have h1 := List.length_filter_le (fun r : Str × Str => decide (r.1 = ("come" : Str)) && !leftOut s.P r.2) ((chg s.S s.W).take i)
            rw [List.length_take] at h1
            omega
          · rw [upd_same, if_pos (by simp), List.map_append, List.map_append]
            rfl
      · refine (if_neg (by decide)).mpr ⟨g, ?_⟩
        have ec : ¬ r.1 = ("come" : Str) := fun z => (of_decide_eq_false ec) (congrArg V.str z)
        rw [pb hr', if_neg (by simp [ec]), List.append_nil]
        exact eD
    · obtain ⟨g, eD⟩ := h
      rw [List.take_of_length_le (Nat.le_of_eq al0.1.symm)] at eD
      have gg : Go T H G := GoE.news (g0.trans w1) g fun b hb => by rw [List.mem_singleton.mp hb]; exact fD
      have e2 := g.t _ _ e1
      have al2 := al1.imp fun _ _ h => PairAt.ext h g.t
      have saG := sa.go gg
      obtain ⟨⟨dx2, tp2, er2, ep2⟩, el2, es2, ew2, _⟩ := id saG
      refine ⟨_, rfl, s.r, C, dx2, _, _, rfl, er2, L.cl, L.nL, look_l, _, rfl, s.r, C, dx2, _, _, rfl, er2, L.cl, L.nS, look_s, s.dl, s.ds, s.L, s.S, rfl, el2, es2, so.fl.n, so.fs.n, gg.2, fun G3 t1 ys g3 e3 al3 => ?_⟩
      have eD3 := g3.at eD
      have e23 := g3.t _ _ e2
      have al23 := al2.imp fun _ _ h => PairAt.ext h g3.t
      have gg3 := gg.trans g3
      refine ⟨_, rfl, t0, rfl, ⟨_, SqT.of e23⟩, g3.2.st, fun G4 cd tb S hS => ?_⟩
      have g4 : Go T G3 G4 := g3.2.stx tb
      have w5 : Go T G4 (upd G4 S (.lst [])) := go_upd g4.2 hS
      have w45 := g4.trans w5
      have fS : Fresh G3 S := fresh_of g4 hS
      have e25 := w45.t _ _ e23
      have al25 := al23.imp fun _ _ h => PairAt.ext h w45.t
      have lb : ∀ {i : Nat} {r : Str × Str}, (chg s.S s.W)[i]? = some r → (((chg s.S s.W).take (i + 1)).filter fun r => !decide (r.1 = ("come" : Str))) = (((chg s.S s.W).take i).filter fun r => !decide (r.1 = ("come" : Str))) ++ (if (!decide (r.1 = ("come" : Str))) = true then [r] else []) := fun {i r} h => by
        rw [take_snoc h, List.filter_append]
        congr 1
        by_cases z : (!decide (r.1 = ("come" : Str))) = true
        · rw [if_pos z]; simp only [List.filter_cons, List.filter_nil]; rw [if_pos z]
        · rw [if_neg z]; simp only [List.filter_cons, List.filter_nil]; rw [if_neg z]
      refine turnsK_of xs.length (fun i F => GoE T [S] (upd G4 S (.lst [])) F ∧ ∃ acc, F S = some (.lst acc) ∧ All2 (PairAt F) acc (((chg s.S s.W).take i).filter fun r => !decide (r.1 = ("come" : Str)))) ⟨GoE.refl w5.2, [], upd_same, All2.nil⟩ (fun F h => ⟨⟨xs, SqT.of (h.1.t _ _ e25), Nat.le_refl _⟩, ?_⟩) (fun i F hi h => ⟨⟨xs, xs[i], SqT.of (h.1.t _ _ e25), List.getElem?_eq_getElem hi⟩, fun x F' y => ?_⟩)
      · obtain ⟨g6, acc, eS, aa⟩ := h
        rw [List.take_of_length_le (Nat.le_of_eq al0.1.symm)] at aa
        refine ⟨acc, eS, fun p hp => ?_⟩
        have g36 : Go T G3 F := GoE.news w45 g6 fun b hb => by rw [List.mem_singleton.mp hb]; exact fS
        have w7 : Go T F (upd F p (.tup acc)) := go_upd g36.2 hp
        have ep7 : upd F p (.tup acc) p = some (.tup acc) := upd_same
        have aa7 := aa.imp fun _ _ h => PairAt.ext h w7.t
        have eD7 := w7.at (g36.at eD3)
        have e37 := w7.t _ _ (g36.t _ _ e3)
        have al37 := al3.imp fun _ _ h => PairAt.ext h (g36.t.trans w7.t)
        have gg7 := (gg3.trans g36).trans w7
        generalize upd F p (.tup acc) = F7 at w7 ep7 aa7 eD7 e37 al37 gg7 ⊢
        refine ⟨_, rfl, D, _, rfl, .inl ⟨SqL.of eD7, fun l hl => ⟨by show 3 ≤ sizeLine; decide, fun t ht => ?_⟩⟩⟩
        have w8 : Go T F7 (upd F7 l (.tup ((freshOf s).map V.str))) := go_upd gg7.2 hl
        have e8 : upd F7 l (.tup ((freshOf s).map V.str)) l = some (.tup ((freshOf s).map V.str)) := upd_same
        change upd F7 l (.tup ((freshOf s).map V.str)) t = none at ht
        have w9 : Go T _ (upd (upd F7 l (.tup ((freshOf s).map V.str))) t (.tup [.ref t1, .ref p, .ref l])) := go_upd w8.2 ht
        have w89 := w8.trans w9
        exact k1 _ t t1 p l ys acc (gg7.trans w89) upd_same (w89.t _ _ e37) (al37.imp fun _ _ h => PairAt.ext h w89.t) (w89.t _ _ ep7) (aa7.imp fun _ _ h => PairAt.ext h w89.t) (w9.t _ _ e8)
      · obtain ⟨g6, acc, eS, aa⟩ := h
        obtain ⟨rfl, y⟩ := y
        have hx := y _ (SqT.of (g6.t _ _ e25))
        obtain ⟨r, hr', t2, rfl, et2⟩ := al25.at hx
        have et2 := g6.t _ _ et2
        refine ⟨wipe_one, _, rfl, t2, _, _, _, rfl, rfl, SqT.of et2, rfl, rfl, _, rfl, ?_⟩
        rw [lb hr']
        by_cases ec : r.1 = ("come" : Str)
        · refine (if_neg (by rw [ec]; decide)).mpr ⟨g6, acc, eS, ?_⟩
          rw [if_neg (by simp [ec]), List.append_nil]
          exact aa
        · refine (if_pos (by simp [ec])).mpr ⟨_, rfl, acc, eS, ?_, g6.trans (go_set g6.2 eS mu_lst (by simp)), _, upd_same, ?_⟩
          · rw [aa.1, sizeLine_eq]
            have h1 := List.length_filter_le (fun r : Str × Str => !decide (r.1 = ("come" : Str))) ((chg s.S s.W).take i)
            rw [List.length_take] at h1
            omega
          · have w6 : GoE T [S] F' (upd F' S (.lst (acc ++ [.ref t2]))) := go_set g6.2 eS mu_lst (by simp)
            rw [if_pos (by simp [ec])]
            exact (aa.imp fun _ _ h => PairAt.ext h w6.t).snoc ⟨t2, rfl, w6.t _ _ et2⟩
end
end Sg
end Text_S16
section Text_S17
set_option Elab.async false
set_option linter.all false
set_option maxRecDepth 100000
set_option maxHeartbeats 4000000
namespace Sg
open PySem PySem.Spec PyProof.Rows L2 Gx GxR
theorem dp_pairs {K : PySem.W.Frag} {H : Hp} {xs : List V} {rs : List (Str × Str)} (al : All2 (PairAt H) xs rs) : DpAll K H xs (rs.map pairD) := dp_all2 (g := pairD) (fun x y h => by
  obtain ⟨t, rfl, et⟩ := h
  exact .tup (SqT.of et) (.cons (.str _) (.cons (.str _) .nil))) _ _ al
theorem pl_pairs {rs : List (Str × Str)} (h : ∀ r ∈ rs, okS r.1 ∧ okS r.2) : Pl 2 (.tuple (rs.map pairD)) = true := by
  show (rs.map pairD).all (Pl 1) = true
  rw [List.all_eq_true]
  intro d hd
  obtain ⟨r, hr, rfl⟩ := List.mem_map.mp hd
  obtain ⟨a, b⟩ := h r hr
  exact pl_strs (n := 0) (xs := [r.1, r.2]) fun x hx => by
    rcases List.mem_cons.mp hx with e | hx
    · rw [e]; exact a
    · rw [List.mem_singleton.mp hx]; exact b
theorem eqv_none {rs : List (Str × Str)} (h : ∀ r ∈ rs, okS r.1 ∧ okS r.2) : PyData.eqv (.tuple (rs.map pairD)) (.tuple []) = decide (rs = []) := by
  rw [Bool.eq_iff_iff, decide_eq_true_iff, pl_eqv 2 _ _ (pl_pairs h) rfl, PyData.tuple.injEq, List.map_eq_nil_iff]
section
variable {P : Program} {w : World} {K : PySem.W.Frag} {mg : Str → Option Value} {base : Heap} {T : Tb} {C CP CG CS : Addr}
theorem scCl : FnScope ["self", "staged", "lying", "fresh"] ["self"] (defScope sClean) := ⟨rfl, rfl, rfl, by decide +kernel, rfl, by decide +kernel, by decide +kernel⟩
theorem ok_clean {f fS : Addr} {fd fdS : FuncData} (F : Fun K "is_clean" "Stage.is_clean" sClean f fd) (L : Cl K mg C) (GS : FnOk P w K mg base CX0 22 fS fdS ["self"] (spStat C T)) (mS : Meth K C "status" fS) (bS : Binds K fdS ["self"] []) : FnOk P w K mg base CX0 23 f fd ["self"] (spClean C T) := by
  refine F.ok scCl (fun vs H Q E h => ?_) (fun cdv A0 outer sh H vs Q E hr h => ?_)
  · obtain ⟨s, rfl, _⟩ := h
    rfl
  · obtain ⟨s, rfl, sa, so, tk, k1⟩ := h
    have hu := hu_of hr
    refine ⟨_, pss_cons (ps_asg (pe_meth0 (pv 0) L.cl mS GS hr bS .nil pass0) (pg_tup rfl (pgs_cons (pg_name (i := 1) scCl.nd rfl (Or.inl rfl)) (pgs_cons (pg_name (i := 2) scCl.nd rfl (Or.inl rfl)) (pgs_cons (pg_name (i := 3) scCl.nd rfl (Or.inl rfl)) pgs_nil)))))
      (pss_one (ps_ret (pe_and (pe_cmpR (op_eqD hr.units) (pv 1) (pe_tup pa_nil) (nomark _)) (pe_one (pe_cmpR (op_eqD hr.units) (pv 2) (pe_tup pa_nil) (nomark _)))))), ?_⟩
    obtain ⟨⟨dx, tp, er, ep⟩, el, es, ew, h1, h2, h3⟩ := id sa
    refine ⟨_, rfl, s.r, dx, _, rfl, er, look_no (by decide +kernel), s, rfl, sa, so, tk, fun G t t1 t2 t3 xs1 xs2 g et e1 al1 e2 al2 e3 => ⟨t, _, rfl, SqT.of et, rfl, _, _, rfl, _, _, rfl, _, _, rfl, rfl, ?_⟩⟩
    refine ⟨_, rfl, by show 0 ≤ sizeLine; decide, fun t4 h4 => ?_⟩
    have w4 : Go T G (upd G t4 (.tup [])) := go_upd g.2 h4
    have e4 : upd G t4 (.tup []) t4 = some (.tup []) := upd_same
    have gw := g.trans w4
    have e14 := w4.t _ _ e1
    have e24 := w4.t _ _ e2
    have al14 := al1.imp fun _ _ h => PairAt.ext h w4.t
    have al24 := al2.imp fun _ _ h => PairAt.ext h w4.t
    generalize upd G t4 (.tup []) = G4 at w4 e4 gw e14 e24 al14 al24 ⊢
    have ok1 := chg_ok so.fl.ok so.fs.ok
    have ok2 : ∀ r ∈ lyingOf s, okS r.1 ∧ okS r.2 := fun r hr => chg_ok so.fs.ok so.fw.ok r (List.mem_filter.mp hr).1
    refine ⟨_, _, .tup (SqT.of e14) (dp_pairs al14), .tup (SqT.of e4) .nil, pl_shaped (pl_pairs ok1) (by decide), by decide +kernel, _, rfl, ?_⟩
    rw [eqv_none ok1]
    unfold cleanB at k1
    by_cases z : chg s.L s.S = []
    · rw [decide_eq_true z] at k1 ⊢
      refine iteT ⟨_, rfl, by show 0 ≤ sizeLine; decide, fun t5 h5 => ?_⟩
      have w5 : Go T G4 (upd G4 t5 (.tup [])) := go_upd gw.2 h5
      refine ⟨_, _, .tup (SqT.of (w5.t _ _ e24)) (dp_pairs (al24.imp fun _ _ h => PairAt.ext h w5.t)), .tup (SqT.of upd_same) .nil, pl_shaped (pl_pairs ok2) (by decide), by decide +kernel, ?_⟩
      rw [eqv_none ok2]
      exact k1 _ (gw.trans w5)
    · rw [decide_eq_false z] at k1 ⊢
      exact iteF (k1 _ gw)
theorem scLe : FnScope ["self", "patterns", "pattern"] ["self", "patterns"] (defScope sLeave) := ⟨rfl, rfl, rfl, by decide +kernel, rfl, by decide +kernel, by decide +kernel⟩
theorem ok_leave {f c : Addr} {fd : FuncData} (F : FunC K "leave_out" "Stage.leave_out" sLeave f c fd) (L : Cl K mg C) (X : Er K mg CP CG CS) (Y : Tx K mg) (bl : TabB base mg c T.le) : FnOk P w K mg base (L2.CX P w) 3 f fd ["self", "patterns"] (spLeave C T CG) := by
  refine F.okX scLe (fun vs H Q E h => ?_) (fun A0 outer sh H vs Q E hr h => ?_)
  · obtain ⟨s, t, ps, rfl, _⟩ := h
    rfl
  · obtain ⟨s, t, ps, rfl, sa, et, tk, k1, k2⟩ := h
    refine ⟨_, pss_cons (ps_if (pt_val (pe_anyC (own := [("pattern", 2)]) (k := 1) hr rfl Y.any ⟨_, bl.bm⟩ (mkC_base bl rfl) scLe.nd (gOkC_by (N := ["self", "patterns", "pattern"]) (sc := defScope sLeave) (by decide +kernel)) (pi_tup (pv 1))
          ⟨fun _ _ _ _ _ _ _ _ => pg_name (i := 2) scLe.nd rfl (Or.inl rfl), fun _ _ _ _ _ _ _ _ => pts_nil, fun _ _ _ _ _ _ _ _ => pe_cmpR (op_in_seqK K rfl) (pv 2) (pe_tup (pa_cons pe_str (pa_cons pe_str pa_nil))) (by rfl)⟩))
        (pss_one (ps_raise rfl (takes_of rfl rfl rfl rfl) (pmk_own PySem.F.excBase_ValueError X.G.x X.G.g X.G.k (raises_own X.G.b X.G.t) rfl))) pss_nil)
      (pss_one (ps_fld (pv 0) (pe_callTy call_tuple_of (by rfl) Y.tuple (by decide +kernel) (pa_cons (pv 1) pa_nil)) rfl)), ?_⟩
    refine ⟨_, rfl, t, rfl, ⟨_, SqT.of et⟩, tk.le, fun H2 cd tb => ?_⟩
    have g2 : Go T H H2 := tk.lex tb
    refine any_go (S := []) (St := fun G => SqT K G t (ps.map V.str)) ov_t (fun G g => SqT.of (g.t _ _ (g2.t _ _ et))) g2.2 (fun q => decide (q ∈ (["", "!"] : List Str))) (fun q hq G Q' g k => ?_) fun G g => ⟨_, rfl, ?_⟩
    · refine ⟨_, rfl, by show 2 ≤ sizeLine; decide, fun l hl => ⟨l, _, rfl, .inr (SqT.of upd_same), rfl, rfl, ?_⟩⟩
      rw [if_neg Bool.false_ne_true, show inV (V.str q) [V.str "", V.str "!"] = decide (q ∈ (["", "!"] : List Str)) from inV_str q ["", "!"]]
      exact k _ (go_upd g.2 hl)
    have gg := g2.trans g
    cases e : ps.any fun q => decide (q ∈ (["", "!"] : List Str)) with
    | true => exact iteT (k1 e _ gg)
    | false =>
      obtain ⟨⟨dx, tp, er, ep⟩, el, es, ew, h1, h2, h3⟩ := id (sa.go gg)
      refine iteF ⟨_, rfl, t, _, rfl, .inr ⟨SqT.of (gg.t _ _ et), _, rfl, s.r, C, dx, _, rfl, er, L.cl, L.nP, by show 4 < 1000; decide, ?_⟩⟩
      rw [put_p]
      have w5 : GoE T [s.r] G (upd G s.r (.ins C dx (flds (.ref s.dl) (.ref s.ds) (.ref s.dw) (.ref t)))) := go_set gg.2 er mu_ins (by simp)
      have w25 : GoE T [s.r] H _ := (Go.any gg).trans w5
      refine k2 e _ (Stp.of (C := C) w25 (fun b hb => ?_) fun b hb => .inl hb) ⟨⟨dx, t, upd_same, w25.t _ _ et⟩, w5.at el (by simpa using Ne.symm sa.nrl), w5.at es (by simpa using Ne.symm sa.nrs), w5.at ew (by simpa using Ne.symm sa.nrw), h1, h2, h3⟩
      rw [List.mem_singleton.mp hb]
      simp [Sta.ad]
end
end Sg
end Text_S17
section Text_S18
set_option Elab.async false
set_option linter.all false
set_option maxRecDepth 100000
set_option maxHeartbeats 4000000
namespace Sg
open PySem PySem.Spec PyProof.Rows L2 Gx GxR
section
variable {P : Program} {w : World} {K : PySem.W.Frag} {mg : Str → Option Value} {base : Heap} {T : Tb} {C CP CG CS : Addr}
theorem scIn : FnScope ["self", "files"] ["self", "files"] (defScope sInit) := ⟨rfl, rfl, rfl, by decide +kernel, rfl, by decide +kernel, by decide +kernel⟩
theorem ok_init {f fF : Addr} {fd fdF : FuncData} (F : Fun K "__init__" "Stage.__init__" sInit f fd) (L : Cl K mg C) (Y : Tx K mg) (GF : FnOk P w K mg base (L2.CX P w) 4 fF fdF ["files"] (spFiles T CP)) (mF : mg "check_files" = some (.ref fF))
    (kF : PySem.W.keepIn K (.ref fF) = true) (bF : Binds K fdF ["files"] []) : FnOk P w K mg base (L2.CX P w) 5 f fd ["self", "files"] (spInit C T CP) := by
  refine F.okX scIn (fun vs H Q E h => ?_) (fun cdv A0 outer sh H vs Q E hr h => ?_)
  · obtain ⟨r, dx, a, A, rfl, _⟩ := h
    rfl
  · obtain ⟨r, dx, a, A, rfl, er, ea, sm, tk, k1, k2⟩ := h
    refine ⟨_, pss_cons (ps_lock (ps_expr (pe_call GF hr rfl mF kF bF .nil (passes_call (takes_of rfl rfl rfl rfl) (fun _ _ _ _ e => e)) (pa_cons (pv 1) pa_nil))))
      (pss_cons (ps_fld (pv 0) (pe_callTy call_dictD (by rfl) Y.dict (by decide +kernel) (pa_cons (pv 1) pa_nil)) rfl)
      (pss_cons (ps_fld (pv 0) (pe_callTy call_dictD (by rfl) Y.dict (by decide +kernel) (pa_cons (pv 1) pa_nil)) rfl)
      (pss_cons (ps_fld (pv 0) (pe_callTy call_dictD (by rfl) Y.dict (by decide +kernel) (pa_cons (pv 1) pa_nil)) rfl)
      (pss_one (ps_fld (pv 0) (pe_tup pa_nil) rfl))))), ?_⟩
    have nra : a ≠ r := ne_of ea er (by intro z; cases z)
    have w0 : ∀ od, GoE T [a] H (upd H a (.frz od (.dK (fk A)))) := fun od => go_set tk ea mu_dK (by simp)
    refine ⟨a, _, ea, trivial, fun od => ⟨_, rfl, a, od, A, rfl, upd_same, sm, (w0 od).2, fun hb G g => k1 hb _ ((w0 od).trans (Go.any g)), fun hb G g => ?_⟩⟩
    have ef : G a = some (.frz od (.dK (fk A))) := g.at upd_same
    refine ⟨ef, ?_⟩
    have w1 : Go T H (upd G a (.dK (fk A))) := go_back tk ea ((w0 od).trans (Go.any g)) ef mu_frz
    have ea1 : upd G a (.dK (fk A)) a = some (.dK (fk A)) := upd_same
    have er1 := w1.at er
    generalize upd G a (.dK (fk A)) = G1 at w1 ea1 er1 ⊢
    -- a copy is laid, then stored
    have cp : ∀ {G : Hp} {fs : List (Str × V)} {d : Addr}, GoE T [r] H G → G r = some (.ins C dx fs) → G a = some (.dK (fk A)) → G d = none →
        GoE T [r] H (upd G d (.dK (fk A))) ∧ upd G d (.dK (fk A)) r = some (.ins C dx fs) ∧ upd G d (.dK (fk A)) a = some (.dK (fk A)) ∧ upd G d (.dK (fk A)) d = some (.dK (fk A)) ∧ Fresh H d ∧ Go T G (upd G d (.dK (fk A))) ∧ d ≠ r := fun {G fs d} g e e2 hd =>
      ⟨g.trans (go_upd g.2 hd), by rw [upd_ne (ne_of_none e hd)]; exact e, by rw [upd_ne (ne_of_none e2 hd)]; exact e2, upd_same, fresh_in g hd (fun b hb => by rw [List.mem_singleton.mp hb]; exact ⟨_, e⟩), go_upd g.2 hd, (ne_of_none e hd).symm⟩
    have st : ∀ {G : Hp} {fs : List (Str × V)} {fl : Str} {v : V}, GoE T [r] H G → G r = some (.ins C dx fs) → GoE T [r] G (upd G r (.ins C dx (putF fl v fs))) := fun g e => go_set g.2 e mu_ins (by simp)
    refine ⟨_, rfl, a, _, rfl, rd_of ea1, fun d1 h1 => ?_⟩
    obtain ⟨g2, e2, ea2, ed1, f1, _, n1⟩ := cp (Go.any w1) er1 ea1 h1
    generalize upd G1 d1 (.dK (fk A)) = G2 at g2 e2 ea2 ed1 ⊢
    refine ⟨_, rfl, r, C, dx, _, rfl, e2, L.cl, L.nL, by decide, ?_⟩
    have w3 := st (fl := "last") (v := .ref d1) g2 e2
    have e3 : upd G2 r (.ins C dx (putF "last" (.ref d1) [])) r = some (.ins C dx (putF "last" (.ref d1) [])) := upd_same
    have ea3 := w3.at ea2 (by simpa using nra)
    have ed1 := w3.at ed1 (by simpa using n1)
    have g3 := g2.trans w3
    generalize upd G2 r (.ins C dx (putF "last" (.ref d1) [])) = G3 at g3 e3 ea3 ed1 ⊢
    refine ⟨_, rfl, a, _, rfl, rd_of ea3, fun d2 h2 => ?_⟩
    obtain ⟨g4, e4, ea4, ed2, f2, w4, n2⟩ := cp g3 e3 ea3 h2
    have n12 : d1 ≠ d2 := ne_of_none ed1 h2
    have ed1 := w4.at ed1
    generalize upd G3 d2 (.dK (fk A)) = G4 at g4 e4 ea4 ed2 ed1 ⊢
    refine ⟨_, rfl, r, C, dx, _, rfl, e4, L.cl, L.nS, by show 1 < 1000; decide, ?_⟩
    have w5 := st (fl := "staged") (v := .ref d2) g4 e4
    have e5 : upd G4 r (.ins C dx (putF "staged" (.ref d2) (putF "last" (.ref d1) []))) r = some (.ins C dx (putF "staged" (.ref d2) (putF "last" (.ref d1) []))) := upd_same
    have ea5 := w5.at ea4 (by simpa using nra)
    have ed1 := w5.at ed1 (by simpa using n1)
    have ed2 := w5.at ed2 (by simpa using n2)
    have g5 := g4.trans w5
    generalize upd G4 r (.ins C dx (putF "staged" (.ref d2) (putF "last" (.ref d1) []))) = G5 at g5 e5 ea5 ed1 ed2 ⊢
    refine ⟨_, rfl, a, _, rfl, rd_of ea5, fun d3 h3 => ?_⟩
    obtain ⟨g6, e6, ea6, ed3, f3, w6, n3⟩ := cp g5 e5 ea5 h3
    have n13 : d1 ≠ d3 := ne_of_none ed1 h3
    have n23 : d2 ≠ d3 := ne_of_none ed2 h3
    have ed1 := w6.at ed1
    have ed2 := w6.at ed2
    generalize upd G5 d3 (.dK (fk A)) = G6 at g6 e6 ea6 ed1 ed2 ed3 ⊢
    refine ⟨_, rfl, r, C, dx, _, rfl, e6, L.cl, L.nW, by show 2 < 1000; decide, ?_⟩
    have w7 := st (fl := "work") (v := .ref d3) g6 e6
    have e7 : upd G6 r (.ins C dx (putF "work" (.ref d3) (putF "staged" (.ref d2) (putF "last" (.ref d1) [])))) r = some (.ins C dx (putF "work" (.ref d3) (putF "staged" (.ref d2) (putF "last" (.ref d1) [])))) := upd_same
    have ed1 := w7.at ed1 (by simpa using n1)
    have ed2 := w7.at ed2 (by simpa using n2)
    have ed3 := w7.at ed3 (by simpa using n3)
    have g7 := g6.trans w7
    generalize upd G6 r (.ins C dx (putF "work" (.ref d3) (putF "staged" (.ref d2) (putF "last" (.ref d1) [])))) = G7 at g7 e7 ed1 ed2 ed3 ⊢
    refine ⟨by show 0 ≤ sizeLine; decide, fun t ht => ?_⟩
    have w8 : Go T G7 (upd G7 t (.tup [])) := go_upd g7.2 ht
    have et : upd G7 t (.tup []) t = some (.tup []) := upd_same
    have e8 := w8.at e7
    have ed1 := w8.at ed1
    have ed2 := w8.at ed2
    have ed3 := w8.at ed3
    have g8 := g7.trans (Go.any w8)
    generalize upd G7 t (.tup []) = G8 at g8 e8 et ed1 ed2 ed3 ⊢
    refine ⟨_, rfl, r, C, dx, _, rfl, e8, L.cl, L.nP, by show 3 < 1000; decide, ?_⟩
    have w9 := st (fl := "patterns") (v := .ref t) g8 e8
    refine k2 hb _ d1 d2 d3 (g8.trans w9) f1 f2 f3 ⟨⟨dx, t, ?_, w9.t _ _ et⟩, w9.at ed1 (by simpa using n1), w9.at ed2 (by simpa using n2), w9.at ed3 (by simpa using n3), n12, n13, n23⟩
    rw [upd_same, flds_mk]
end
end Sg
end Text_S18
section Text_S19
set_option Elab.async false
set_option linter.all false
set_option maxRecDepth 100000
set_option maxHeartbeats 4000000
namespace Sg
open PySem PySem.Spec PyProof.Rows L2 Gx GxR
/-- what a file moved makes of a table -/
def mv (A : Files) (p q : Str) (z : Str) : Files := fPut (fDrop A p) q z
def mvOk (s : Sta) (p q : Str) : Bool := (lk s.S p).isSome && decide (lk s.W p = lk s.S p) && (lk s.W q).isNone && (lk s.S q).isNone
def spMove (C : Addr) (T : Tb) (CG CP : Addr) : Sp := fun vs H Q E => ∃ (s : Sta) (p q : Str), vs = [.ref s.r, .str p, .str q] ∧ SAt C H s ∧ s.W.length ≤ 100 ∧ s.S.length ≤ 100 ∧ (∀ z, mvOk s p q = true → lk s.S p = some z → fsm (mv s.W p q z) ∧ fsm (mv s.S p q z)) ∧ TOk T H ∧
  (mvOk s p q = false → ∀ H', Go T H H' → E (.ref CG) none H') ∧ (∀ z, mvOk s p q = true → lk s.S p = some z → (badF (mv s.W p q z) || badF (mv s.S p q z)) = true → ∀ H', Go T H H' → E (.ref CP) none H') ∧
  (∀ z, mvOk s p q = true → lk s.S p = some z → (badF (mv s.W p q z) || badF (mv s.S p q z)) = false → ∀ H' d1 d2, Stp T H s H' { s with ds := d1, dw := d2, S := mv s.S p q z, W := mv s.W p q z } → SAt C H' { s with ds := d1, dw := d2, S := mv s.S p q z, W := mv s.W p q z } → Q .non H')
abbrev NMv : List Str := ["self", "path", "other", "work", "staged"]
section
variable {P : Program} {w : World} {K : PySem.W.Frag} {mg : Str → Option Value} {base : Heap} {T : Tb} {C CP CG CS : Addr}
theorem scMv : FnScope NMv ["self", "path", "other"] (defScope sMove) := ⟨rfl, rfl, rfl, by decide +kernel, rfl, by decide +kernel, by decide +kernel⟩
theorem ok_move {f fF : Addr} {fd fdF : FuncData} (F : Fun K "move_file" "Stage.move_file" sMove f fd) (L : Cl K mg C) (X : Er K mg CP CG CS) (Y : Tx K mg) (GF : FnOk P w K mg base (L2.CX P w) 4 fF fdF ["files"] (spFiles T CP)) (mF : mg "check_files" = some (.ref fF))
    (kF : PySem.W.keepIn K (.ref fF) = true) (bF : Binds K fdF ["files"] []) : FnOk P w K mg base (L2.CX P w) 5 f fd ["self", "path", "other"] (spMove C T CG CP) := by
  refine F.okX scMv (fun vs H Q E h => ?_) (fun cdv A0 outer sh H vs Q E hr h => ?_)
  · obtain ⟨s, p, q, rfl, _⟩ := h
    rfl
  · obtain ⟨s, p, q, rfl, sa, lW, lS, sm, tk, k1, k2, k3⟩ := h
    have hu := hu_of hr
    refine ⟨_, pss_cons (ps_if (PW.pt (pw_or (pt_cmp (pc_dnotin hu (pv 1) (pe_fld (pv 0) rfl))) (pw_or1 (pt_cmpR op_ne (pe_dget1 hu (pe_fld (pv 0) rfl) (pv 1) ⟨rfl, rfl, rfl, rfl⟩) (pe_dget hu (pe_fld (pv 0) rfl) (pv 1) (fun _ _ => rfl)) (nomark _)))))
        (pss_one (ps_raise rfl (takes_of rfl rfl rfl rfl) (pmk_own PySem.F.excBase_ValueError X.G.x X.G.g X.G.k (raises_own X.G.b X.G.t) rfl))) pss_nil)
      (pss_cons (ps_if (PW.pt (pw_or (pt_cmp (pc_din hu (pv 2) (pe_fld (pv 0) rfl))) (pw_or1 (pt_cmp (pc_din hu (pv 2) (pe_fld (pv 0) rfl))))))
        (pss_one (ps_raise rfl (takes_of rfl rfl rfl rfl) (pmk_own PySem.F.excBase_ValueError X.G.x X.G.g X.G.k (raises_own X.G.b X.G.t) rfl))) pss_nil)
      (pss_cons (ps_par (i := 3) (j := 4) (by rfl) scMv.nd rfl rfl (by decide) rfl rfl (pa_cons (pe_callTy call_dictD (by rfl) Y.dict (by decide +kernel) (pa_cons (pe_fld (pv 0) rfl) pa_nil)) (pa_cons (pe_callTy call_dictD (by rfl) Y.dict (by decide +kernel) (pa_cons (pe_fld (pv 0) rfl) pa_nil)) pa_nil)) (by rfl))
      (pss_cons (ps_asg (pe_tup (pa_cons (pe_dpop1 (pv 3) (pv 1) ⟨rfl, rfl, rfl, rfl⟩) (pa_cons (pe_dpop1 (pv 4) (pv 1) ⟨rfl, rfl, rfl, rfl⟩) pa_nil))) (pg_tup rfl (pgs_cons (pg_sub (pv 3) (pv 2) (set_dict hu)) (pgs_cons (pg_sub (pv 4) (pv 2) (set_dict hu)) pgs_nil))))
      (pss_cons (ps_lock (ps_expr (pe_call GF hr rfl mF kF bF .nil (passes_call (takes_of rfl rfl rfl rfl) (fun _ _ _ _ e => e)) (pa_cons (pv 3) pa_nil))))
      (pss_cons (ps_lock (ps_expr (pe_call GF hr rfl mF kF bF .nil (passes_call (takes_of rfl rfl rfl rfl) (fun _ _ _ _ e => e)) (pa_cons (pv 4) pa_nil))))
      (pss_one (ps_asg (pe_tup (pa_cons (pv 3) (pa_cons (pv 4) pa_nil))) (pg_tup rfl (pgs_cons (pg_fld (pv 0)) (pgs_cons (pg_fld (pv 0)) pgs_nil)))))))))), ?_⟩
    obtain ⟨⟨dx, tp, er, ep⟩, el, es, ew, h1, h2, h3⟩ := id sa
    have din : ∀ {A : Files} {d : Addr} {G : Hp} (x : Str), G d = some (.dK (fk A)) → DGet G d (.str x) ((lk A x).map V.str) := fun x h => by have := DGet.k (k := Sum.inr x) h; rw [lk_fk] at this; exact this
    have no : mvOk s p q = false → E (.ref CG) none H := fun h => k1 h H (GoE.refl tk)
    refine ⟨_, rfl, _, rfl, s.r, C, dx, _, _, rfl, er, L.cl, L.nS, look_s, s.ds, _, rfl, din p es, _, rfl, ?_⟩
    cases eS : lk s.S p with
    | none => exact iteT (iteT (no (by unfold mvOk; rw [eS]; rfl)))
    | some z =>
      refine iteF ⟨_, rfl, s.r, C, dx, _, _, rfl, er, L.cl, L.nW, look_w, s.dw, rfl, .inl ⟨_, rd_of ew⟩, _, rfl, _, din p ew, _, rfl, s.r, C, dx, _, _, rfl, er, L.cl, L.nS, look_s, _, rfl, s.ds, _, rfl, dget_of es eS, ?_, _, rfl, ?_⟩
      · cases lk s.W p <;> rfl
      have eV : (!decide (((lk s.W p).map V.str).getD .non = V.str z)) = !decide (lk s.W p = some z) := by
        congr 1
        rw [Bool.eq_iff_iff, decide_eq_true_iff, decide_eq_true_iff]
        cases lk s.W p <;> simp
      rw [eV]
      by_cases eW : lk s.W p = some z
      · rw [decide_eq_true eW]
        refine iteF ⟨_, rfl, _, rfl, s.r, C, dx, _, _, rfl, er, L.cl, L.nW, look_w, s.dw, _, rfl, din q ew, _, rfl, ?_⟩
        cases eWq : lk s.W q with
        | some y => exact iteT (iteT (no (by unfold mvOk; rw [eWq]; simp)))
        | none =>
          refine iteF ⟨_, rfl, _, rfl, s.r, C, dx, _, _, rfl, er, L.cl, L.nS, look_s, s.ds, _, rfl, din q es, _, rfl, ?_⟩
          cases eSq : lk s.S q with
          | some y => exact iteT (no (by unfold mvOk; rw [eSq]; simp))
          | none =>
            have hok : mvOk s p q = true := by unfold mvOk; rw [eS, eW, eWq, eSq]; simp
            obtain ⟨sm1, sm2⟩ := sm z hok eS
            have k2 := k2 z hok eS
            have k3 := k3 z hok eS
            clear no k1 sm
            refine iteF ⟨_, rfl, s.r, C, dx, _, _, rfl, er, L.cl, L.nW, look_w, s.dw, _, rfl, rd_of ew, fun d1 hd1 => ?_⟩
            have w1 : Go T H (upd H d1 (.dK (fk s.W))) := go_upd tk hd1
            have ed1 : upd H d1 (.dK (fk s.W)) d1 = some (.dK (fk s.W)) := upd_same
            have f1 : Fresh H d1 := fresh_none hd1
            have nr1 : s.r ≠ d1 := ne_of_none er hd1
            have nl1 : s.dl ≠ d1 := ne_of_none el hd1
            have er1 := w1.at er
            have es1 := w1.at es
            generalize upd H d1 (.dK (fk s.W)) = H1 at w1 ed1 er1 es1 ⊢
            refine ⟨_, rfl, s.r, C, dx, _, _, rfl, er1, L.cl, L.nS, look_s, s.ds, _, rfl, rd_of es1, fun d2 hd2 => ⟨_, _, rfl, ?_⟩⟩
            have w2 : Go T H1 (upd H1 d2 (.dK (fk s.S))) := go_upd w1.2 hd2
            have ed2 : upd H1 d2 (.dK (fk s.S)) d2 = some (.dK (fk s.S)) := upd_same
            have f2 : Fresh H d2 := fresh_of w1 hd2
            have n12 : d1 ≠ d2 := ne_of_none ed1 hd2
            have nr2 : s.r ≠ d2 := ne_of_none er1 hd2
            have nl2 : s.dl ≠ d2 := ne_of_none (w1.at el) hd2
            have ed1 := w2.at ed1
            generalize upd H1 d2 (.dK (fk s.S)) = H2 at w2 ed1 ed2 ⊢
            have g3 : GoE T [d1, d2] H _ := Go.any (w1.trans w2)
            have m1 : d1 ∈ [d1, d2] := by simp
            have m2 : d2 ∈ [d1, d2] := by simp
            refine ⟨_, rfl, d1, rfl, .inl ⟨_, rd_of ed1⟩, _, rfl, fk s.W, Sum.inr p, .str z, ed1, rfl, by rw [lk_fk, eW]; rfl, ?_⟩
            rw [fk_drop]
            have g4 := g3.trans (go_set (o := .dK (fk (fDrop s.W p))) g3.2 ed1 mu_dK m1)
            have ed2 : upd H2 d1 (.dK (fk (fDrop s.W p))) d2 = some (.dK (fk s.S)) := by rw [upd_ne (Ne.symm n12)]; exact ed2
            have ed1 : upd H2 d1 (.dK (fk (fDrop s.W p))) d1 = some (.dK (fk (fDrop s.W p))) := upd_same
            generalize upd H2 d1 (.dK (fk (fDrop s.W p))) = H4 at g4 ed1 ed2 ⊢
            refine ⟨_, rfl, d2, rfl, .inl ⟨_, rd_of ed2⟩, _, rfl, fk s.S, Sum.inr p, .str z, ed2, rfl, by rw [lk_fk, eS]; rfl, ?_⟩
            rw [fk_drop]
            have g5 := g4.trans (go_set (o := .dK (fk (fDrop s.S p))) g4.2 ed2 mu_dK m2)
            have ed1 : upd H4 d2 (.dK (fk (fDrop s.S p))) d1 = some (.dK (fk (fDrop s.W p))) := by rw [upd_ne n12]; exact ed1
            have ed2 : upd H4 d2 (.dK (fk (fDrop s.S p))) d2 = some (.dK (fk (fDrop s.S p))) := upd_same
            generalize upd H4 d2 (.dK (fk (fDrop s.S p))) = H5 at g5 ed1 ed2 ⊢
            refine ⟨by show 2 ≤ sizeLine; decide, fun t2 ht2 => ⟨t2, _, rfl, SqT.of upd_same, rfl, _, _, rfl, ?_⟩⟩
            have w6 : GoE T [d1, d2] H5 (upd H5 t2 (.tup [.str z, .str z])) := go_upd g5.2 ht2
            have ed1 : upd H5 t2 (.tup [.str z, .str z]) d1 = some (.dK (fk (fDrop s.W p))) := by rw [upd_ne (ne_of_none ed1 ht2)]; exact ed1
            have ed2 : upd H5 t2 (.tup [.str z, .str z]) d2 = some (.dK (fk (fDrop s.S p))) := by rw [upd_ne (ne_of_none ed2 ht2)]; exact ed2
            have g6 := g5.trans w6
            generalize upd H5 t2 (.tup [.str z, .str z]) = H6 at g6 ed1 ed2 ⊢
            have dl : ∀ {A : Files}, A.length ≤ 100 → (fk (fDrop A p)).length < sizeLine := fun {A} h => by
              have := fDrop_len A p
              rw [fkn, sizeLine_eq]
              omega
            refine ⟨_, rfl, _, rfl, d1, _, rfl, DPut.k (k := Sum.inr q) ed1 (dl lW), ?_⟩
            rw [fk_put]
            have g7 := g6.trans (go_set (o := .dK (fk (mv s.W p q z))) g6.2 ed1 mu_dK m1)
            have ed2 : upd H6 d1 (.dK (fk (mv s.W p q z))) d2 = some (.dK (fk (fDrop s.S p))) := by rw [upd_ne (Ne.symm n12)]; exact ed2
            have ed1 : upd H6 d1 (.dK (fk (mv s.W p q z))) d1 = some (.dK (fk (mv s.W p q z))) := upd_same
            change ∃ v r, _
            generalize hH7 : upd H6 d1 (.dK (fk (mv s.W p q z))) = H7 at g7 ed1 ed2
            have hH7' : upd H6 d1 (.dK (fk (fPut (fDrop s.W p) q z))) = H7 := hH7
            rw [hH7']
            refine ⟨_, _, rfl, _, rfl, _, rfl, d2, _, rfl, DPut.k (k := Sum.inr q) ed2 (dl lS), rfl, ?_⟩
            rw [fk_put]
            have g8 := g7.trans (go_set (o := .dK (fk (mv s.S p q z))) g7.2 ed2 mu_dK m2)
            have ed1 : upd H7 d2 (.dK (fk (mv s.S p q z))) d1 = some (.dK (fk (mv s.W p q z))) := by rw [upd_ne n12]; exact ed1
            have ed2 : upd H7 d2 (.dK (fk (mv s.S p q z))) d2 = some (.dK (fk (mv s.S p q z))) := upd_same
            generalize hH8 : upd H7 d2 (.dK (fk (mv s.S p q z))) = H8 at g8 ed1 ed2
            have hH8' : upd H7 d2 (.dK (fk (fPut (fDrop s.S p) q z))) = H8 := hH8
            rw [hH8']
            clear hH7 hH7' hH8 hH8' g3 g4 g5 g6 g7 w6 w2 hd1 hd2 ht2
            have nw : ∀ {G : Hp}, GoE T [d1, d2] H G → Go T H G := fun g => GoE.news (GoE.refl tk) g fun b hb => by
              simp only [List.mem_cons, List.not_mem_nil, or_false] at hb
              rcases hb with rfl | rfl
              · exact f1
              · exact f2
            -- check_files(work)
            refine ⟨d1, _, ed1, trivial, fun od => ⟨_, rfl, d1, od, _, rfl, upd_same, sm1, (go_set (o := .frz od (.dK (fk (mv s.W p q z)))) g8.2 ed1 mu_dK m1).2, fun hb G g => k2 (by rw [hb]; rfl) _ (nw ((g8.trans (go_set g8.2 ed1 mu_dK m1)).trans (Go.any g))), fun hb G g => ?_⟩⟩
            have ef : G d1 = some (.frz od (.dK (fk (mv s.W p q z)))) := g.at upd_same
            refine ⟨ef, ?_⟩
            have w9 : Go T H8 (upd G d1 (.dK (fk (mv s.W p q z)))) := go_back g8.2 ed1 ((go_set (S := [d1]) g8.2 ed1 mu_dK (by simp)).trans (Go.any g)) ef mu_frz
            have ed1 : upd G d1 (.dK (fk (mv s.W p q z))) d1 = some (.dK (fk (mv s.W p q z))) := upd_same
            have ed2 := w9.at ed2
            have g9 := g8.trans (Go.any w9)
            generalize upd G d1 (.dK (fk (mv s.W p q z))) = H9 at w9 ed1 ed2 g9 ⊢
            clear ef g G od w9 g8
            refine ⟨d2, _, ed2, trivial, fun od => ⟨_, rfl, d2, od, _, rfl, upd_same, sm2, (go_set (o := .frz od (.dK (fk (mv s.S p q z)))) g9.2 ed2 mu_dK m2).2, fun hb2 G g => k2 (by rw [hb2]; simp) _ (nw ((g9.trans (go_set g9.2 ed2 mu_dK m2)).trans (Go.any g))), fun hb2 G g => ?_⟩⟩
            have ef : G d2 = some (.frz od (.dK (fk (mv s.S p q z)))) := g.at upd_same
            refine ⟨ef, ?_⟩
            have w10 : Go T H9 (upd G d2 (.dK (fk (mv s.S p q z)))) := go_back g9.2 ed2 ((go_set (S := [d2]) g9.2 ed2 mu_dK (by simp)).trans (Go.any g)) ef mu_frz
            have ed2 : upd G d2 (.dK (fk (mv s.S p q z))) d2 = some (.dK (fk (mv s.S p q z))) := upd_same
            have ed1 := w10.at ed1
            have g10 := nw (g9.trans (Go.any w10))
            generalize upd G d2 (.dK (fk (mv s.S p q z))) = H10 at w10 ed1 ed2 g10 ⊢
            clear ef g G od w10 g9
            have er10 := g10.at er
            refine ⟨_, rfl, _, rfl, by show 2 ≤ sizeLine; decide, fun t3 ht3 => ?_⟩
            have w11 : Go T H10 (upd H10 t3 (.tup [.ref d1, .ref d2])) := go_upd g10.2 ht3
            have e3 : upd H10 t3 (.tup [.ref d1, .ref d2]) t3 = some (.tup [.ref d1, .ref d2]) := upd_same
            have er11 := w11.at er10
            have ed1 := w11.at ed1
            have ed2 := w11.at ed2
            have g11 := g10.trans w11
            generalize upd H10 t3 (.tup [.ref d1, .ref d2]) = H11 at e3 er11 ed1 ed2 g11 ⊢
            refine ⟨t3, _, rfl, SqT.of e3, rfl, _, _, rfl, _, rfl, s.r, C, dx, _, rfl, er11, L.cl, L.nW, by show 4 < 1000; decide, ?_⟩
            rw [put_w]
            have w12 : GoE T [s.r] H11 (upd H11 s.r (.ins C dx (flds (.ref s.dl) (.ref s.ds) (.ref d1) (.ref tp)))) := go_set g11.2 er11 mu_ins (by simp)
            have er12 : upd H11 s.r (.ins C dx (flds (.ref s.dl) (.ref s.ds) (.ref d1) (.ref tp))) s.r = some (.ins C dx (flds (.ref s.dl) (.ref s.ds) (.ref d1) (.ref tp))) := upd_same
            have ed1 := w12.at ed1 (by simpa using Ne.symm nr1)
            have ed2 := w12.at ed2 (by simpa using Ne.symm nr2)
            have g12 := (Go.any (S := [s.r]) g11).trans w12
            generalize upd H11 s.r (.ins C dx (flds (.ref s.dl) (.ref s.ds) (.ref d1) (.ref tp))) = H12 at er12 ed1 ed2 g12 ⊢
            refine ⟨_, _, rfl, _, rfl, s.r, C, dx, _, rfl, er12, L.cl, L.nS, by show 4 < 1000; decide, rfl, ?_⟩
            rw [put_s]
            have w13 : GoE T [s.r] H12 (upd H12 s.r (.ins C dx (flds (.ref s.dl) (.ref d2) (.ref d1) (.ref tp)))) := go_set g12.2 er12 mu_ins (by simp)
            have g13 := g12.trans w13
            refine k3 (by rw [hb, hb2]; rfl) _ d2 d1 (Stp.of (C := C) g13 (fun b hb => ?_) fun b hb => ?_) ⟨⟨dx, tp, upd_same, g13.t _ _ ep⟩, g13.at el (by simpa using Ne.symm sa.nrl), w13.at ed2 (by simpa using Ne.symm nr2), w13.at ed1 (by simpa using Ne.symm nr1), nl2, nl1, Ne.symm n12⟩
            · rw [List.mem_singleton.mp hb]
              simp [Sta.ad]
            · simp only [Sta.ad, List.mem_cons, List.not_mem_nil, or_false] at hb ⊢
              rcases hb with rfl | rfl | rfl | rfl
              · exact .inl (.inl rfl)
              · exact .inl (.inr (.inl rfl))
              · exact .inr f2
              · exact .inr f1
      · rw [decide_eq_false eW]
        exact iteT (no (by unfold mvOk; rw [eS]; simp [eW]))
end
end Sg
end Text_S19
section Text_S20
set_option Elab.async false
set_option linter.all false
set_option maxRecDepth 100000
set_option maxHeartbeats 4000000
namespace Sg
open PySem PySem.Spec PyProof.Rows L2 Gx GxR
def looseOf (s : Sta) : Files := s.W.filter fun q => (lk s.S q.1).isNone
def badM (s : Sta) (A : Files) : Bool := !cleanB s || (looseOf s).any fun q => (lk A q.1).isSome || way A q.1
def spMoveTo (C : Addr) (T : Tb) (CG CP : Addr) : Sp := fun vs H Q E => ∃ (s : Sta) (a : Addr) (A : Files), vs = [.ref s.r, .ref a] ∧ SAt C H s ∧ sok s ∧ H a = some (.dK (fk A)) ∧ fok A ∧ a ∉ s.ad ∧ TOk T H ∧
  (badM s A = true → ∀ H', Go T H H' → E (.ref CG) none H') ∧ (badM s A = false → badF A = true → ∀ H', GoE T [a] H H' → E (.ref CP) none H') ∧
  (badM s A = false → badF A = false → ∀ H' d1 d2 d3, Stp T H s H' { s with dl := d1, ds := d2, dw := d3, L := A, S := A, W := A ++ looseOf s } → SAt C H' { s with dl := d1, ds := d2, dw := d3, L := A, S := A, W := A ++ looseOf s } → Q .non H')
theorem merge_app {A B : Files} (hn : (keysF (B ++ A)).Nodup) : mergeK (fk B) (fk A) = fk (B ++ A) := by
  induction A generalizing B with
  | nil => rw [List.append_nil]; rfl
  | cons q A ih =>
    have hq : (Sum.inr q.1 : Key) ∉ (fk B).map (·.1) := fun hm => by
      unfold fk at hm
      rw [List.map_map] at hm
      obtain ⟨r, hr, e⟩ := List.mem_map.mp hm
      have e : r.1 = q.1 := Sum.inr.inj e
      unfold keysF at hn
      rw [List.map_append, List.map_cons] at hn
      exact (List.nodup_append.mp hn).2.2 r.1 (List.mem_map.mpr ⟨r, hr, rfl⟩) q.1 List.mem_cons_self e
    show mergeK (putK (fk B) (Sum.inr q.1) (.str q.2)) (fk A) = _
    rw [put_new _ _ _ hq]
    have := ih (B := B ++ [q]) (by rw [List.append_assoc]; exact hn)
    rw [List.append_assoc] at this
    rw [← show fk (B ++ [q]) = fk B ++ [((Sum.inr q.1 : Key), V.str q.2)] by unfold fk; rw [List.map_append]; rfl]
    exact this
theorem fk_snoc (B : Files) (q : Str × Str) (h : q.1 ∉ keysF B) : putK (fk B) (Sum.inr q.1) (.str q.2) = fk (B ++ [q]) := by
  rw [put_new _ _ _ (fun hm => ?_)]
  · unfold fk
    rw [List.map_append]
    rfl
  · unfold fk at hm
    rw [List.map_map] at hm
    obtain ⟨r, hr, e⟩ := List.mem_map.mp hm
    exact h (List.mem_map.mpr ⟨r, hr, Sum.inr.inj e⟩)
theorem lk_iff (A : Files) (p : Str) : (lk A p).isSome = true ↔ p ∈ keysF A := by
  constructor
  · intro h
    cases e : lk A p with
    | none => rw [e] at h; cases h
    | some x =>
      obtain ⟨q, hq, rfl, _⟩ := lk_mem e
      exact List.mem_map.mpr ⟨q, hq, rfl⟩
  · intro h
    obtain ⟨q, hq, rfl⟩ := List.mem_map.mp h
    cases e : lk A q.1 with
    | some x => rfl
    | none => exact absurd rfl (lk_none e q hq)
theorem fk_at {A : Files} {i : Nat} {k : Key} {v : V} (h : (fk A)[i]? = some (k, v)) : ∃ q, A[i]? = some q ∧ k = Sum.inr q.1 ∧ v = .str q.2 := by
  unfold fk at h
  rw [List.getElem?_map] at h
  cases e : A[i]? with
  | none => rw [e] at h; cases h
  | some q =>
    rw [e] at h
    have h := Option.some.inj h
    exact ⟨q, rfl, (congrArg Prod.fst h).symm, (congrArg Prod.snd h).symm⟩
theorem fil_snoc {α : Type} {xs : List α} {pb : α → Bool} {j : Nat} {y : α} (h : xs[j]? = some y) : (xs.take (j + 1)).filter pb = (xs.take j).filter pb ++ (if pb y = true then [y] else []) := by
  rw [take_snoc h, List.filter_append]
  congr 1
  by_cases z : pb y = true
  · rw [if_pos z]; simp only [List.filter_cons, List.filter_nil]; rw [if_pos z]
  · rw [if_neg z]; simp only [List.filter_cons, List.filter_nil]; rw [if_neg z]
theorem nd_idx {W : Files} (nd : (keysF W).Nodup) {i j : Nat} {q r : Str × Str} (hi : W[i]? = some q) (hj : W[j]? = some r) (e : r.1 = q.1) : j = i := by
  have e1 : (keysF W)[i]? = some q.1 := by unfold keysF; rw [List.getElem?_map, hi]; rfl
  have e2 : (keysF W)[j]? = some r.1 := by unfold keysF; rw [List.getElem?_map, hj]; rfl
  have hl : j < (keysF W).length := by
    have := (List.getElem?_eq_some_iff.mp e2).1
    exact this
  exact (List.getElem?_inj hl nd).mp (by rw [e2, e1, e])
abbrev NTo : List Str := ["self", "files", "loose", "path", "text"]
section
variable {P : Program} {w : World} {K : PySem.W.Frag} {mg : Str → Option Value} {base : Heap} {T : Tb} {C CP CG CS : Addr}
theorem scMt : FnScope NTo ["self", "files"] (defScope sMoveTo) := ⟨rfl, rfl, rfl, by decide +kernel, rfl, by decide +kernel, by decide +kernel⟩
theorem ok_moveTo {f fF fY fK : Addr} {fd fdF fdY fdK : FuncData} (F : Fun K "move_to" "Stage.move_to" sMoveTo f fd) (L : Cl K mg C) (X : Er K mg CP CG CS) (Y : Tx K mg) (GF : FnOk P w K mg base (L2.CX P w) 4 fF fdF ["files"] (spFiles T CP)) (mF : mg "check_files" = some (.ref fF))
    (kF : PySem.W.keepIn K (.ref fF) = true) (bF : Binds K fdF ["files"] []) (GY : FnOk P w K mg base CX0 3 fY fdY ["files", "path"] (spWay T)) (mY : mg "in_way" = some (.ref fY)) (kY : PySem.W.keepIn K (.ref fY) = true) (bY : Binds K fdY ["files", "path"] [])
    (GK : FnOk P w K mg base CX0 23 fK fdK ["self"] (spClean C T)) (mK : Meth K C "is_clean" fK) (bK : Binds K fdK ["self"] []) : FnOk P w K mg base (L2.CX P w) 24 f fd ["self", "files"] (spMoveTo C T CG CP) := by
  refine F.okX scMt (fun vs H Q E h => ?_) (fun cdv A0 outer sh H vs Q E hr h => ?_)
  · obtain ⟨s, a, A, rfl, _⟩ := h
    rfl
  · obtain ⟨s, a, A, rfl, sa, so, ea, fa, na, tk, k1, k2, k3⟩ := h
    have hu := hu_of hr
    refine ⟨_, pss_cons (ps_if (pt_not (pt_val (pe_meth0 (pv 0) L.cl mK GK hr bK .nil pass0)))
        (pss_one (ps_raise rfl (takes_of rfl rfl rfl rfl) (pmk_own PySem.F.excBase_ValueError X.G.x X.G.g X.G.k (raises_own X.G.b X.G.t) rfl))) pss_nil)
      (pss_cons (ps_lock (ps_setDc (i := 2) (own := [("path", 3), ("text", 4)]) rfl scMt.nd rfl rfl (swd_true rfl rfl rfl (by decide +kernel)) (pi_items (pe_fld (pv 0) rfl)) (blkOk_by (N := NTo) (sc := defScope sMoveTo) (by decide +kernel))
          (fun _ _ _ _ _ => pg_tupK K 2 rfl rfl (pgs_cons (pg_name (i := 3) scMt.nd rfl (Or.inl rfl)) (pgs_cons (pg_name (i := 4) scMt.nd rfl (Or.inl rfl)) pgs_nil)))
          (fun _ _ _ _ _ => pts_one (pt_cmp (pc_dnotin hu (pv 3) (pe_fldK K rfl (pv 0) rfl)))) (fun _ _ _ _ _ => pv 3) (fun _ _ _ _ _ => pv 4)))
      (pss_cons (ps_lock (ps_for (passes_of rfl) rfl (pi_keys (pv 2)) (pg_name (i := 3) scMt.nd rfl (Or.inl rfl))
          (pss_one (ps_if (PW.pt (pw_or (pt_cmp (pc_din hu (pv 3) (pv 1))) (pw_or1 (pt_val (pe_call GY (hr.mono (by decide)) rfl mY kY bY .nil pass0 (pa_cons (pv 1) (pa_cons (pv 3) pa_nil)))))))
            (pss_one (ps_raise rfl (takes_of rfl rfl rfl rfl) (pmk_own PySem.F.excBase_ValueError X.G.x X.G.g X.G.k (raises_own X.G.b X.G.t) rfl))) pss_nil))))
      (pss_cons (ps_lock (ps_expr (pe_call GF (hr.mono (by decide)) rfl mF kF bF .nil (passes_call (takes_of rfl rfl rfl rfl) (fun _ _ _ _ e => e)) (pa_cons (pv 1) pa_nil))))
      (pss_cons (ps_asg (pe_tup (pa_cons (pe_callTy call_dictD (by rfl) Y.dict (by decide +kernel) (pa_cons (pv 1) pa_nil)) (pa_cons (pe_callTy call_dictD (by rfl) Y.dict (by decide +kernel) (pa_cons (pv 1) pa_nil)) (pa_cons (pe_callTy call_dictD (by rfl) Y.dict (by decide +kernel) (pa_cons (pv 1) pa_nil)) pa_nil))))
          (pg_tup rfl (pgs_cons (pg_fld (pv 0)) (pgs_cons (pg_fld (pv 0)) (pgs_cons (pg_fld (pv 0)) pgs_nil)))))
      (pss_one (ps_expr (pe_dupdate (pe_fld (pv 0) rfl) (pv 2) ⟨rfl, rfl, rfl, rfl⟩))))))), ?_⟩
    obtain ⟨⟨dx, tp, er, ep⟩, el, es, ew, h1, h2, h3⟩ := id sa
    have din : ∀ {A : Files} {d : Addr} {G : Hp} (x : Str), G d = some (.dK (fk A)) → DGet G d (.str x) ((lk A x).map V.str) := fun x h => by have := DGet.k (k := Sum.inr x) h; rw [lk_fk] at this; exact this
    refine ⟨_, rfl, s.r, dx, _, rfl, er, look_no (by decide +kernel), s, rfl, sa, so, tk, fun G0 g0 => ⟨_, rfl, ?_⟩⟩
    cases ec : cleanB s with
    | false => exact iteT (k1 (by unfold badM; rw [ec]; rfl) _ g0)
    | true =>
    refine iteF ?_
    have ew0 := g0.at ew
    have w0 : ∀ od, GoE T [s.dw] G0 (upd G0 s.dw (.frz od (.dK (fk s.W)))) := fun od => go_set g0.2 ew0 mu_dK (by simp)
    refine ⟨s.dw, _, ew0, trivial, fun od => ?_⟩
    have ef0 : upd G0 s.dw (.frz od (.dK (fk s.W))) s.dw = some (.frz od (.dK (fk s.W))) := upd_same
    have w0 := w0 od
    have erF := w0.at (g0.at er) (by simpa using sa.nrw)
    have esF := w0.at (g0.at es) (by simpa using h3)
    have key : ∀ D, upd G0 s.dw (.frz od (.dK (fk s.W))) D = none → G0 D = none ∧ D ≠ s.dw := fun D hD => by
      by_cases z : D = s.dw
      · rw [z, upd_same] at hD; cases hD
      · rw [upd_ne z] at hD; exact ⟨hD, z⟩
    generalize upd G0 s.dw (.frz od (.dK (fk s.W))) = F0 at w0 ef0 erF esF key ⊢
    refine ⟨_, rfl, s.r, C, dx, _, _, rfl, erF, L.cl, L.nW, look_w, s.dw, od, fk s.W, rfl, ef0, fun D hD => ?_⟩
    obtain ⟨hD0, nD⟩ := key D hD
    have w1 : Go T F0 (upd F0 D (.dK [])) := go_upd w0.2 hD
    have ef1 := w1.at ef0
    have er1 := w1.at erF
    have es1 := w1.at esF
    have nDr : s.r ≠ D := ne_of_none erF hD
    have nDs : s.ds ≠ D := ne_of_none esF hD
    refine ⟨fun i m G => i + m = s.W.length ∧ GoE T [D] (upd F0 D (.dK [])) G ∧ G D = some (.dK (fk ((s.W.take i).filter fun q => (lk s.S q.1).isNone))), ⟨s.W.length, Nat.zero_add _, GoE.refl w1.2, upd_same⟩, fun i m G w => ?_⟩
    obtain ⟨hsum, g, eD⟩ := w
    have ef := g.at ef1 (by simpa using Ne.symm nD)
    rcases Nat.lt_or_ge i s.W.length with hi | hi
    · refine .inr ⟨⟨ef, by rw [fkn]; exact hi⟩, fun G => GoE T [D] (upd F0 D (.dK [])) G ∧ G D = some (.dK (fk ((s.W.take (i + 1)).filter fun q => (lk s.S q.1).isNone))), fun G' q => ⟨m - 1, by omega, by omega, q⟩, fun x G' y => ?_⟩
      obtain ⟨t, k, v, e1, rfl, ht, rfl⟩ := y
      obtain ⟨q, hq, rfl, rfl⟩ := fk_at e1
      have w2 : GoE T [D] G (upd G t (.tup [kV (Sum.inr q.1), .str q.2])) := go_upd g.2 ht
      have et : upd G t (.tup [kV (Sum.inr q.1), .str q.2]) t = some (.tup [.str q.1, .str q.2]) := upd_same
      have g2 := g.trans w2
      have eD2 : upd G t (.tup [kV (Sum.inr q.1), .str q.2]) D = some (.dK (fk ((s.W.take i).filter fun q => (lk s.S q.1).isNone))) := by rw [upd_ne (ne_of_none eD ht)]; exact eD
      generalize upd G t (.tup [kV (Sum.inr q.1), .str q.2]) = G2 at w2 et g2 eD2 ⊢
      have er2 := g2.at er1 (by simpa using nDr)
      have es2 := g2.at es1 (by simpa using nDs)
      refine ⟨t, _, rfl, SqT.of et, rfl, _, _, rfl, _, _, rfl, rfl, rfl, _, rfl, _, rfl, s.r, C, dx, _, _, rfl, er2, L.cl, L.nS, look_s, s.ds, _, rfl, din q.1 es2, _, rfl, ?_⟩
      rw [fil_snoc hq]
      cases eS : lk s.S q.1 with
      | some z =>
        refine (if_neg (by simp)).mpr ⟨g2, ?_⟩
        rw [if_neg (by simp), List.append_nil]
        exact eD2
      | none =>
        refine (if_pos rfl).mpr ⟨_, rfl, _, rfl, _, Sum.inr q.1, rfl, eD2, ?_, g2.trans (go_set g2.2 eD2 mu_dK (by simp)), ?_⟩
        · have hle := List.length_filter_le (fun q : Str × Str => (lk s.S q.1).isNone) (s.W.take i)
          rw [List.length_take] at hle
          have := so.fw.n
          rw [fkn, sizeLine_eq]
          omega
        · rw [upd_same, if_pos (by simp), fk_snoc]
          intro hm
          obtain ⟨r, hr, e⟩ := List.mem_map.mp hm
          have hr := (List.mem_filter.mp hr).1
          obtain ⟨j, hj, ej⟩ := List.getElem_of_mem hr
          rw [List.length_take] at hj
          have ej : s.W[j]? = some r := by
            rw [List.getElem_take] at ej
            rw [List.getElem?_eq_getElem (by omega), ej]
          have := nd_idx so.fw.nd hq ej e
          omega
    refine .inl ⟨⟨ef, by rw [fkn]; exact hi⟩, ef, ?_⟩
    have ei : i = s.W.length := by omega
    rw [ei, List.take_length] at eD
    have eD : G D = some (.dK (fk (looseOf s))) := eD
    have gF : GoE T [s.dw] G0 G := by
      refine ⟨fun b o e nt mm2 => g.1 b o (w1.1 b o (w0.1 b o e nt mm2) nt (.inl (by simp))) nt ?_, g.2⟩
      rcases mm2 with mm2 | mm2
      · exact .inl (by simpa using ne_of_none e hD0)
      · exact .inr mm2
    have w3 : Go T G0 (upd G s.dw (.dK (fk s.W))) := go_back g0.2 ew0 gF ef mu_frz
    have eD3 : upd G s.dw (.dK (fk s.W)) D = some (.dK (fk (looseOf s))) := by rw [upd_ne nD]; exact eD
    have g3 := g0.trans w3
    have fD : Fresh H D := fresh_of g0 hD0
    generalize upd G s.dw (.dK (fk s.W)) = G3 at w3 eD3 g3 ⊢
    -- for path in loose: ..
    have lsub : (keysF (looseOf s)).Sublist (keysF s.W) := (List.filter_sublist (l := s.W)).map _
    have nda : a ≠ D := fun z => by
      obtain ⟨ps, e⟩ := fD _ (by rw [← z]; exact ea)
      cases e
    have w4 : ∀ od, GoE T [D] G3 (upd G3 D (.frz od (.dK (fk (looseOf s))))) := fun od => go_set g3.2 eD3 mu_dK (by simp)
    refine ⟨D, _, eD3, trivial, fun od => ⟨_, rfl, D, od, rfl, .inl ⟨fk (looseOf s), upd_same, ?_⟩⟩⟩
    have w4 := w4 od
    have ef4 : upd G3 D (.frz od (.dK (fk (looseOf s)))) D = some (.frz od (.dK (fk (looseOf s)))) := upd_same
    have g4 : GoE T [D] H _ := (Go.any g3).trans w4
    have ea4 : upd G3 D (.frz od (.dK (fk (looseOf s)))) a = some (.dK (fk A)) := w4.at (g3.at ea) (by simpa using nda)
    generalize upd G3 D (.frz od (.dK (fk (looseOf s)))) = F4 at w4 ef4 g4 ea4 ⊢
    have hle : ((keysF (looseOf s)).map V.str).length = (keysF (looseOf s)).length := List.length_map _
    have ov := ovk (d := D) (o := od) (A := looseOf s)
    have nw : ∀ {G : Hp}, GoE T [D] H G → Go T H G := fun g => GoE.news (GoE.refl tk) g fun b hb => by rw [List.mem_singleton.mp hb]; exact fD
    refine for_turns (keysF (looseOf s)).length (fun i σ G => Go T F4 G ∧ (∃ v3, σ = [some (.ref s.r), some (.ref a), some (.ref D), v3, none]) ∧ ∀ p ∈ (keysF (looseOf s)).take i, ((lk A p).isSome || way A p) = false) ⟨GoE.refl w4.2, ⟨none, rfl⟩, fun p hp => by simp at hp⟩ (fun i σ G hi h => ⟨ov.go i G (h.1.at ef4) (by rw [hle]; exact hi), fun x G' y => ?_⟩) (fun σ G h => ⟨by have := ov.stop G (h.1.at ef4); rw [hle] at this; exact this, ?_⟩)
    · obtain ⟨g, ⟨v3, rfl⟩, hp3⟩ := h
      obtain ⟨rfl, hx⟩ := ov.yld i G x G' (g.at ef4) (by rw [hle]; exact hi) y
      obtain ⟨p, hp, rfl⟩ := str_at hx
      have hm := List.mem_of_getElem? hp
      have hpw := lsub.subset hm
      obtain ⟨q, hq, eq⟩ := List.mem_map.mp hm
      have hpl := so.fw.sm.2 p hpw
      have eag := g.at ea4
      have yes : ((lk A p).isSome || way A p) = true → ∀ G2, Go T G' G2 → E (.ref CG) none G2 := fun hb G2 g2 => by
        refine k1 ?_ _ (nw (g4.trans (Go.any (g.trans g2))))
        unfold badM
        rw [List.any_eq_true.mpr ⟨q, hq, by rw [show q.1 = p from eq]; exact hb⟩, Bool.or_true]
      refine ⟨_, rfl, _, rfl, a, _, rfl, din p eag, _, rfl, ?_⟩
      cases eA : lk A p with
      | some z => exact iteT (iteT (yes (by rw [eA]; rfl) _ (GoE.refl g.2)))
      | none =>
        refine iteF ⟨_, rfl, _, rfl, a, p, A, rfl, eag, fa.sm, hpl, g.2, fun G2 g2 => ⟨_, rfl, ?_⟩⟩
        cases ey : way A p with
        | true => exact iteT (yes (by rw [eA, ey]; rfl) _ g2)
        | false =>
          refine iteF ⟨g.trans g2, ⟨_, rfl⟩, fun p' hp' => ?_⟩
          rw [take_snoc hp] at hp'
          rcases List.mem_append.mp hp' with z | z
          · exact hp3 p' z
          · rw [List.mem_singleton.mp z, eA, ey]; rfl
    obtain ⟨g, ⟨v3, rfl⟩, hno⟩ := h
    rw [List.take_length] at hno
    have hbad : badM s A = false := by
      unfold badM
      rw [ec, Bool.not_true, Bool.false_or, List.any_eq_false]
      intro q hq
      have := hno q.1 (List.mem_map.mpr ⟨q, hq, rfl⟩)
      rw [this]
      exact Bool.false_ne_true
    have k2 := k2 hbad
    have k3 := k3 hbad
    have efG := g.at ef4
    refine ⟨efG, ?_⟩
    have w5 : Go T G3 (upd G D (.dK (fk (looseOf s)))) := go_back g3.2 eD3 (w4.trans (Go.any g)) efG mu_frz
    have eD5 : upd G D (.dK (fk (looseOf s))) D = some (.dK (fk (looseOf s))) := upd_same
    have g5 := g3.trans w5
    generalize upd G D (.dK (fk (looseOf s))) = G5 at w5 eD5 g5 ⊢
    have ea5 := g5.at ea
    -- check_files(files)
    have w6 : ∀ od, GoE T [a] G5 (upd G5 a (.frz od (.dK (fk A)))) := fun od => go_set g5.2 ea5 mu_dK (by simp)
    refine ⟨a, _, ea5, trivial, fun od => ⟨_, rfl, a, od, A, rfl, upd_same, fa.sm, (w6 od).2, fun hb G g => k2 hb _ (((Go.any g5).trans (w6 od)).trans (Go.any g)), fun hb G g => ?_⟩⟩
    have ef : G a = some (.frz od (.dK (fk A))) := g.at upd_same
    refine ⟨ef, ?_⟩
    have w7 : Go T G5 (upd G a (.dK (fk A))) := go_back g5.2 ea5 ((w6 od).trans (Go.any g)) ef mu_frz
    have eD7 := w7.at eD5
    have g7 := g5.trans w7
    generalize upd G a (.dK (fk A)) = G7 at w7 eD7 g7 ⊢
    -- three copies
    have ea7 := g7.at ea
    have er7 := g7.at er
    refine ⟨_, rfl, a, _, rfl, rd_of ea7, fun d1 hd1 => ?_⟩
    have w8 : Go T G7 (upd G7 d1 (.dK (fk A))) := go_upd g7.2 hd1
    have ed1 : upd G7 d1 (.dK (fk A)) d1 = some (.dK (fk A)) := upd_same
    have f1 : Fresh H d1 := fresh_of g7 hd1
    have nr1 : s.r ≠ d1 := ne_of_none er7 hd1
    have nD1 : D ≠ d1 := ne_of_none eD7 hd1
    have g8 := g7.trans w8
    have eD8 := w8.at eD7
    generalize upd G7 d1 (.dK (fk A)) = G8 at w8 ed1 g8 eD8 ⊢
    have ea8 := g8.at ea
    have er8 := g8.at er
    refine ⟨_, rfl, a, _, rfl, rd_of ea8, fun d2 hd2 => ?_⟩
    have w9 : Go T G8 (upd G8 d2 (.dK (fk A))) := go_upd g8.2 hd2
    have ed2 : upd G8 d2 (.dK (fk A)) d2 = some (.dK (fk A)) := upd_same
    have f2 : Fresh H d2 := fresh_of g8 hd2
    have nr2 : s.r ≠ d2 := ne_of_none er8 hd2
    have nD2 : D ≠ d2 := ne_of_none eD8 hd2
    have n12 : d1 ≠ d2 := ne_of_none ed1 hd2
    have g9 := g8.trans w9
    have ed1 := w9.at ed1
    have eD9 := w9.at eD8
    generalize upd G8 d2 (.dK (fk A)) = G9 at w9 ed1 ed2 g9 eD9 ⊢
    have ea9 := g9.at ea
    have er9 := g9.at er
    refine ⟨_, rfl, a, _, rfl, rd_of ea9, fun d3 hd3 => ⟨by show 3 ≤ sizeLine; decide, fun t ht => ?_⟩⟩
    have w10 : Go T G9 (upd G9 d3 (.dK (fk A))) := go_upd g9.2 hd3
    have ed3 : upd G9 d3 (.dK (fk A)) d3 = some (.dK (fk A)) := upd_same
    have f3 : Fresh H d3 := fresh_of g9 hd3
    have nr3 : s.r ≠ d3 := ne_of_none er9 hd3
    have nD3 : D ≠ d3 := ne_of_none eD9 hd3
    have n13 : d1 ≠ d3 := ne_of_none ed1 hd3
    have n23 : d2 ≠ d3 := ne_of_none ed2 hd3
    have g10 := g9.trans w10
    have ed1 := w10.at ed1
    have ed2 := w10.at ed2
    have eD10 := w10.at eD9
    generalize upd G9 d3 (.dK (fk A)) = G10 at w10 ed1 ed2 ed3 g10 eD10 ht ⊢
    have w11 : Go T G10 (upd G10 t (.tup [.ref d1, .ref d2, .ref d3])) := go_upd g10.2 ht
    have et : upd G10 t (.tup [.ref d1, .ref d2, .ref d3]) t = some (.tup [.ref d1, .ref d2, .ref d3]) := upd_same
    have g11 := g10.trans w11
    have ed1 := w11.at ed1
    have ed2 := w11.at ed2
    have ed3 := w11.at ed3
    have eD11 := w11.at eD10
    generalize upd G10 t (.tup [.ref d1, .ref d2, .ref d3]) = G11 at w11 et ed1 ed2 ed3 g11 eD11 ⊢
    have er11 := g11.at er
    have nDr : D ≠ s.r := fun z => by
      rw [z, er11] at eD11
      cases eD11
    refine ⟨t, _, rfl, SqT.of et, rfl, _, _, rfl, _, rfl, s.r, C, dx, _, rfl, er11, L.cl, L.nL, by show 4 < 1000; decide, ?_⟩
    rw [put_l]
    have st : ∀ {G : Hp} {v1 v2 v3 : V}, GoE T [s.r] H G → (∃ fs, G s.r = some (.ins C dx fs)) → GoE T [s.r] G (upd G s.r (.ins C dx (flds v1 v2 v3 (.ref tp)))) := fun g e => let ⟨_, e⟩ := e; go_set g.2 e mu_ins (by simp)
    have w12 := st (v1 := .ref d1) (v2 := .ref s.ds) (v3 := .ref s.dw) (Go.any g11) ⟨_, er11⟩
    have er12 : upd G11 s.r (.ins C dx (flds (.ref d1) (.ref s.ds) (.ref s.dw) (.ref tp))) s.r = some (.ins C dx (flds (.ref d1) (.ref s.ds) (.ref s.dw) (.ref tp))) := upd_same
    have g12 := (Go.any (S := [s.r]) g11).trans w12
    have ed1 := w12.at ed1 (by simpa using Ne.symm nr1)
    have ed2 := w12.at ed2 (by simpa using Ne.symm nr2)
    have ed3 := w12.at ed3 (by simpa using Ne.symm nr3)
    have eD12 := w12.at eD11 (by simpa using nDr)
    generalize upd G11 s.r (.ins C dx (flds (.ref d1) (.ref s.ds) (.ref s.dw) (.ref tp))) = G12 at er12 ed1 ed2 ed3 g12 eD12 ⊢
    refine ⟨_, _, rfl, _, rfl, s.r, C, dx, _, rfl, er12, L.cl, L.nS, by show 4 < 1000; decide, ?_⟩
    rw [put_s]
    have w13 := st (v1 := .ref d1) (v2 := .ref d2) (v3 := .ref s.dw) g12 ⟨_, er12⟩
    have er13 : upd G12 s.r (.ins C dx (flds (.ref d1) (.ref d2) (.ref s.dw) (.ref tp))) s.r = some (.ins C dx (flds (.ref d1) (.ref d2) (.ref s.dw) (.ref tp))) := upd_same
    have g13 := g12.trans w13
    have ed1 := w13.at ed1 (by simpa using Ne.symm nr1)
    have ed2 := w13.at ed2 (by simpa using Ne.symm nr2)
    have ed3 := w13.at ed3 (by simpa using Ne.symm nr3)
    have eD13 := w13.at eD12 (by simpa using nDr)
    generalize upd G12 s.r (.ins C dx (flds (.ref d1) (.ref d2) (.ref s.dw) (.ref tp))) = G13 at er13 ed1 ed2 ed3 g13 eD13 ⊢
    refine ⟨_, _, rfl, _, rfl, s.r, C, dx, _, rfl, er13, L.cl, L.nW, by show 4 < 1000; decide, rfl, ?_⟩
    rw [put_w]
    have w14 := st (v1 := .ref d1) (v2 := .ref d2) (v3 := .ref d3) g13 ⟨_, er13⟩
    have er14 : upd G13 s.r (.ins C dx (flds (.ref d1) (.ref d2) (.ref d3) (.ref tp))) s.r = some (.ins C dx (flds (.ref d1) (.ref d2) (.ref d3) (.ref tp))) := upd_same
    have g14 := g13.trans w14
    have ed1 := w14.at ed1 (by simpa using Ne.symm nr1)
    have ed2 := w14.at ed2 (by simpa using Ne.symm nr2)
    have ed3 := w14.at ed3 (by simpa using Ne.symm nr3)
    have eD14 := w14.at eD13 (by simpa using nDr)
    generalize upd G13 s.r (.ins C dx (flds (.ref d1) (.ref d2) (.ref d3) (.ref tp))) = G14 at er14 ed1 ed2 ed3 g14 eD14 ⊢
    have hlen : A.length + (looseOf s).length ≤ 20 := by
      have x1 := fa.n
      have x2 := so.fw.n
      have x3 := List.length_filter_le (fun q : Str × Str => (lk s.S q.1).isNone) s.W
      unfold looseOf
      omega
    refine ⟨_, rfl, s.r, C, dx, _, _, rfl, er14, L.cl, L.nW, look_w, d3, rfl, .inl ⟨_, rd_of ed3⟩, _, rfl, D, _, _, rfl, ed3, rd_of eD14, Ne.symm nD3, by rw [fkn, fkn, sizeLine_eq]; omega, ?_⟩
    rw [merge_app ?nd]
    case nd =>
      unfold keysF
      rw [List.map_append]
      refine List.nodup_append.mpr ⟨fa.nd, lsub.nodup so.fw.nd, fun x hx y hy e => ?_⟩
      subst e
      have h1 := hno x hy
      have h2 := (lk_iff A x).mpr hx
      rw [h2] at h1
      cases h1
    have w15 : GoE T [d3] G14 (upd G14 d3 (.dK (fk (A ++ looseOf s)))) := go_set g14.2 ed3 mu_dK (by simp)
    have sa14 : SAt C (upd G14 d3 (.dK (fk (A ++ looseOf s)))) { s with dl := d1, ds := d2, dw := d3, L := A, S := A, W := A ++ looseOf s } := ⟨⟨dx, tp, w15.at er14 (by simpa using nr3), w15.t _ _ (g14.t _ _ ep)⟩, w15.at ed1 (by simpa using n13), w15.at ed2 (by simpa using n23), upd_same, n12, n13, n23⟩
    refine k3 hb _ d1 d2 d3 ⟨fun b o e nt m => ?_, g14.t.trans w15.t, w15.2⟩ sa14
    have nb : ∀ {d : Addr}, Fresh H d → b ≠ d := fun {d} f z => by
      obtain ⟨ps, e2⟩ := f o (by rw [← z]; exact e)
      exact nt ps e2
    have mr : b ≠ s.r := fun z => m (by rw [z]; simp [Sta.ad])
    refine ⟨w15.at (g14.at e (by simpa using mr) nt) (by simpa using nb f3) nt, ?_⟩
    simp only [Sta.ad, List.mem_cons, List.not_mem_nil, or_false, not_or]
    exact ⟨mr, nb f1, nb f2, nb f3⟩
end
end Sg
end Text_S20
section Text_S21
set_option Elab.async false
set_option linter.all false
set_option maxRecDepth 100000
set_option maxHeartbeats 4000000
namespace Sg
open PySem PySem.Spec PyProof.Rows L2 Gx GxR
/-! add_all, in plain words -/
def goneL (s : Sta) : List Str := (srt (keysF s.S)).filter fun p => (lk s.W p).isNone
def moreB (s : Sta) (p : Str) : Bool := !decide (lk s.S p = lk s.W p) && ((lk s.S p).isSome || !leftOut s.P p)
def moreL (s : Sta) : List Str := (srt (keysF s.W)).filter (moreB s)
def dropAll (S : Files) (l : List Str) : Files := l.foldl fDrop S
def putAll (W S : Files) (l : List Str) : Files := l.foldl (fun S p => fPut S p ((lk W p).getD "")) S
def allS (s : Sta) : Files := putAll s.W (dropAll s.S (goneL s)) (moreL s)
def wayFree (A : Files) : Prop := ∀ p ∈ keysF A, ∀ q ∈ keysF A, wayS p q = false
theorem lk_dropAll (l : List Str) (S : Files) (p : Str) : lk (dropAll S l) p = if p ∈ l then none else lk S p := by
  induction l generalizing S with
  | nil => rw [if_neg (by simp)]; rfl
  | cons n l ih =>
    show lk (dropAll (fDrop S n) l) p = _
    rw [ih, lk_drop]
    by_cases h1 : p ∈ l
    · rw [if_pos h1, if_pos (by simp [h1])]
    · rw [if_neg h1]
      by_cases h2 : p = n
      · rw [if_pos h2, if_pos (by simp [h2])]
      · rw [if_neg h2, if_neg (by simp [h1, h2])]
theorem lk_putAll (W : Files) (l : List Str) (S : Files) (p : Str) : lk (putAll W S l) p = if p ∈ l then some ((lk W p).getD "") else lk S p := by
  induction l generalizing S with
  | nil => rw [if_neg (by simp)]; rfl
  | cons n l ih =>
    show lk (putAll W (fPut S n ((lk W n).getD "")) l) p = _
    rw [ih, lk_put]
    by_cases h1 : p ∈ l
    · rw [if_pos h1, if_pos (by simp [h1])]
    · rw [if_neg h1]
      by_cases h2 : p = n
      · rw [if_pos h2, if_pos (by simp [h2]), h2]
      · rw [if_neg h2, if_neg (by simp [h1, h2])]
theorem dropAll_sub (l : List Str) (S : Files) : (dropAll S l).Sublist S := by
  induction l generalizing S with
  | nil => exact List.Sublist.refl _
  | cons n l ih => exact (ih (fDrop S n)).trans List.filter_sublist
theorem putAll_len (W : Files) (l : List Str) (S : Files) : (putAll W S l).length ≤ S.length + l.length := by
  induction l generalizing S with
  | nil => exact Nat.le_refl _
  | cons n l ih =>
    have h1 := ih (fPut S n ((lk W n).getD ""))
    have h2 := fPut_len S n ((lk W n).getD "")
    show (putAll W (fPut S n ((lk W n).getD "")) l).length ≤ S.length + (l.length + 1)
    omega
theorem keys_lk {A : Files} {p : Str} (h : p ∈ keysF A) : ∃ z, lk A p = some z := by
  have := (lk_iff A p).mpr h
  cases e : lk A p with
  | none => rw [e] at this; cases this
  | some z => exact ⟨z, rfl⟩
theorem keys_putAll {W : Files} {l : List Str} {S : Files} {p : Str} (h : p ∈ keysF (putAll W S l)) : p ∈ l ∨ p ∈ keysF S := by
  obtain ⟨z, e⟩ := keys_lk h
  rw [lk_putAll] at e
  by_cases h1 : p ∈ l
  · exact .inl h1
  · rw [if_neg h1] at e
    exact .inr ((lk_iff S p).mp (by rw [e]; rfl))
theorem dropAll_snoc (S : Files) (l : List Str) (p : Str) : dropAll S (l ++ [p]) = fDrop (dropAll S l) p := by
  unfold dropAll
  rw [List.foldl_append]
  rfl
theorem putAll_snoc (W S : Files) (l : List Str) (p : Str) : putAll W S (l ++ [p]) = fPut (putAll W S l) p ((lk W p).getD "") := by
  unfold putAll
  rw [List.foldl_append]
  rfl
theorem mem_srt (l : List Str) (p : Str) : p ∈ srt l ↔ p ∈ l := (srt_perm l).mem_iff
theorem srt_nd {l : List Str} (h : l.Nodup) : (srt l).Nodup := (srt_perm l).nodup_iff.mpr h
theorem not_take {l : List Str} (nd : l.Nodup) {i : Nat} {p : Str} (h : l[i]? = some p) : p ∉ l.take i := fun hm => by
  obtain ⟨j, hj, ej⟩ := List.getElem_of_mem hm
  rw [List.length_take] at hj
  rw [List.getElem_take] at ej
  have e2 : l[j]? = some p := by rw [List.getElem?_eq_getElem (by omega), ej]
  have := (List.getElem?_inj (by omega) nd).mp (e2.trans h.symm)
  omega
theorem way_off {W S : Files} (wf : wayFree W) {p : Str} (hp : p ∈ keysF W) (hS : ∀ q ∈ keysF S, q ∈ keysF W) : way S p = false := by
  unfold way
  rw [List.any_eq_false]
  intro q hq
  rw [wf p hp q (hS q hq)]
  exact Bool.false_ne_true
end Sg
end Text_S21
section Text_S22
set_option Elab.async false
set_option linter.all false
set_option maxRecDepth 100000
set_option maxHeartbeats 4000000
namespace Sg
open PySem PySem.Spec PyProof.Rows L2 Gx GxR
theorem passN {P : Program} {w : World} {X : Cx} : Passes (L2.CX P w) X (fun _ _ _ => False) := fun _ _ _ _ _ _ _ c => by
  obtain ⟨_, _, _, _, _, _, _, _, _, _, _, _, z⟩ := c
  exact z.elim
def spAll (C : Addr) (T : Tb) : Sp := fun vs H Q _ => ∃ (s : Sta), vs = [.ref s.r] ∧ SAt C H s ∧ sok s ∧ wayFree s.W ∧ TOk T H ∧ ∀ H', Stp T H s H' { s with S := allS s } → SAt C H' { s with S := allS s } → Q (.int ((goneL s).length + (moreL s).length : Nat)) H'
abbrev NAl : List Str := ["self", "many", "path"]
theorem keys_inr (A : Files) : (fk A).map (·.1) = (keysF A).map Sum.inr := by
  unfold fk keysF
  rw [List.map_map, List.map_map]
  rfl
section
variable {P : Program} {w : World} {K : PySem.W.Frag} {mg : Str → Option Value} {base : Heap} {T : Tb} {C CP CG CS : Addr}
theorem scAl : FnScope NAl ["self"] (defScope sAll) := ⟨rfl, rfl, rfl, by decide +kernel, rfl, by decide +kernel, by decide +kernel⟩
theorem ok_all {f fA fO : Addr} {fd fdA fdO : FuncData} (F : Fun K "add_all" "Stage.add_all" sAll f fd) (L : Cl K mg C) (Y : Tx K mg) (GA : FnOk P w K mg base (L2.CX P w) 22 fA fdA ["self", "path"] (spAdd C T CG)) (mA : Meth K C "add" fA) (bA : Binds K fdA ["self", "path"] [])
    (GO : FnOk P w K mg base CX0 21 fO fdO ["patterns", "path"] (spLeft T)) (mO : mg "left_out" = some (.ref fO)) (kO : PySem.W.keepIn K (.ref fO) = true) (bO : Binds K fdO ["patterns", "path"] []) : FnOk P w K mg base CX0 23 f fd ["self"] (spAll C T) := by
  refine F.ok scAl (fun vs H Q E h => ?_) (fun cdv A0 outer sh H vs Q E hr h => ?_)
  · obtain ⟨s, rfl, _⟩ := h
    rfl
  · obtain ⟨s, rfl, sa, so, wf, tk, k1⟩ := h
    have hu := hu_of hr
    refine ⟨_, pss_cons (ps_set (i := 1) scAl.nd rfl (Or.inl rfl) pe_int)
      (pss_cons (ps_for PassesOwn.never rfl (pi_list (pe_callB (call_sortedD rfl) (by rfl) Y.sorted (by decide +kernel) (pa_cons (pe_fld (pv 0) rfl) pa_nil))) (pg_name (i := 2) scAl.nd rfl (Or.inl rfl))
        (pss_one (ps_if (pt_cmp (pc_dnotin hu (pv 2) (pe_fld (pv 0) rfl)))
          (pss_cons (ps_expr (pe_meth (pv 0) L.cl mA GA hr bA .nil passN (pa_cons (pv 2) pa_nil))) (pss_one (ps_aug (i := 1) scAl.nd rfl (Or.inl rfl) pe_int ip_add))) pss_nil)))
      (pss_cons (ps_for PassesOwn.never rfl (pi_list (pe_callB (call_sortedD rfl) (by rfl) Y.sorted (by decide +kernel) (pa_cons (pe_fld (pv 0) rfl) pa_nil))) (pg_name (i := 2) scAl.nd rfl (Or.inl rfl))
        (pss_one (ps_if (PW.pt (pw_and (pt_cmpR op_ne (pe_dget1 hu (pe_fld (pv 0) rfl) (pv 2) ⟨rfl, rfl, rfl, rfl⟩) (pe_dget hu (pe_fld (pv 0) rfl) (pv 2) (fun _ _ => rfl)) (nomark _))
              (pw_and1 (PW.pt (pw_or (pt_cmp (pc_din hu (pv 2) (pe_fld (pv 0) rfl))) (pw_or1 (pt_not (pt_val (pe_call GO (hr.mono (by decide)) rfl mO kO bO .nil pass0 (pa_cons (pe_fld (pv 0) rfl) (pa_cons (pv 2) pa_nil)))))))))))
          (pss_cons (ps_expr (pe_meth (pv 0) L.cl mA GA hr bA .nil passN (pa_cons (pv 2) pa_nil))) (pss_one (ps_aug (i := 1) scAl.nd rfl (Or.inl rfl) pe_int ip_add))) pss_nil)))
      (pss_one (ps_ret (pv 1))))), ?_⟩
    obtain ⟨⟨dx, tp, er, ep⟩, el, es, ew, h1, h2, h3⟩ := id sa
    have din : ∀ {A : Files} {d : Addr} {G : Hp} (x : Str), G d = some (.dK (fk A)) → DGet G d (.str x) ((lk A x).map V.str) := fun x h => by have := DGet.k (k := Sum.inr x) h; rw [lk_fk] at this; exact this
    have nS : (keysF s.S).length ≤ 10 := by unfold keysF; rw [List.length_map]; exact so.fs.n
    have nW : (keysF s.W).length ≤ 10 := by unfold keysF; rw [List.length_map]; exact so.fw.n
    refine ⟨_, rfl, s.r, C, dx, _, _, rfl, er, L.cl, L.nS, look_s, s.ds, _, keysF s.S, rfl, rd_of es, keys_inr s.S, by omega, fun ys S0 pm sr hS0 => ?_⟩
    have ey : ys = srt (keysF s.S) := srt_eq pm sr
    subst ey
    have w1 : Go T H (upd H S0 (.lst ((srt (keysF s.S)).map V.str))) := go_upd tk hS0
    have e1 : upd H S0 (.lst ((srt (keysF s.S)).map V.str)) S0 = some (.lst ((srt (keysF s.S)).map V.str)) := upd_same
    have n1 : S0 ∉ s.ad := fun z => by
      simp only [Sta.ad, List.mem_cons, List.not_mem_nil, or_false] at z
      rcases z with rfl | rfl | rfl | rfl
      · rw [er] at hS0; cases hS0
      · rw [el] at hS0; cases hS0
      · rw [es] at hS0; cases hS0
      · rw [ew] at hS0; cases hS0
    have sa1 := sa.go w1
    generalize upd H S0 (.lst ((srt (keysF s.S)).map V.str)) = H1 at w1 e1 sa1 ⊢
    have st1 : Stp T H s H1 s := Stp.of (C := C) w1 (fun b hb => absurd hb (by simp)) fun b hb => .inl hb
    have ndS := srt_nd so.fs.nd
    have hleS : (srt (keysF s.S)).length ≤ 10 := by rw [(srt_perm _).length_eq]; exact nS
    -- what the first loop has made
    let S1 : Nat → Files := fun i => dropAll s.S (((srt (keysF s.S)).take i).filter fun p => (lk s.W p).isNone)
    have sub1 : ∀ i, (S1 i).Sublist s.S := fun i => dropAll_sub _ _
    have fs1 : ∀ i, fsm (S1 i) := fun i => ⟨by have := (sub1 i).length_le; have := so.fs.n; omega, fun p hp => so.fs.sm.2 p (((sub1 i).map _).subset hp)⟩
    refine ⟨S0, rfl, ⟨_, SqL.of e1⟩, for_list (xs := (srt (keysF s.S)).map V.str) (fun i σ G => Stp T H1 s G { s with S := S1 i } ∧ SAt C G { s with S := S1 i } ∧ G S0 = some (.lst ((srt (keysF s.S)).map V.str)) ∧ ∃ v2, σ = [some (.ref s.r), some (.int ((((srt (keysF s.S)).take i).filter fun p => (lk s.W p).isNone).length : Nat)), v2]) ?_ ?_ ?_ ?_⟩
    · exact ⟨Stp.refl w1.2, sa1, e1, none, rfl⟩
    · intro i σ G _ h
      exact SqL.of h.2.2.1
    · intro i x σ G hix h
      obtain ⟨st, sG, eG, v2, rfl⟩ := h
      obtain ⟨p, hp, rfl⟩ := str_at hix
      have hm : p ∈ keysF s.S := (mem_srt _ p).mp (List.mem_of_getElem? hp)
      obtain ⟨⟨dx2, tp2, er2, ep2⟩, el2, es2, ew2, _⟩ := id sG
      obtain ⟨q0, hq0, eq0⟩ := List.mem_map.mp hm
      have lok : lokP p := by rw [← show q0.1 = p from eq0]; exact (so.fs.q q0 hq0).1
      have eS1 : S1 (i + 1) = if (lk s.W p).isNone = true then fDrop (S1 i) p else S1 i := by
        show dropAll s.S (((srt (keysF s.S)).take (i + 1)).filter fun p => (lk s.W p).isNone) = _
        rw [fil_snoc hp]
        by_cases z : (lk s.W p).isNone = true
        · rw [if_pos z, if_pos z, dropAll_snoc]
        · rw [if_neg z, if_neg z, List.append_nil]
      refine ⟨_, rfl, _, rfl, s.r, C, dx2, _, _, rfl, er2, L.cl, L.nW, look_w, s.dw, _, rfl, din p ew2, _, rfl, ?_⟩
      rw [eS1, fil_snoc hp]
      cases eW : lk s.W p with
      | some z => exact iteF ⟨by rw [if_neg (by simp)]; exact st, by rw [if_neg (by simp)]; exact sG, eG, some (.str p), by rw [if_neg (by simp), List.append_nil]; rfl⟩
      | none =>
        obtain ⟨z, ez⟩ := keys_lk hm
        have eSi : lk (S1 i) p = some z := by
          show lk (dropAll _ _) p = _
          rw [lk_dropAll, if_neg fun hz => not_take ndS hp (List.mem_filter.mp hz).1]
          exact ez
        have eA : addR { s with S := S1 i } p = some (fDrop (S1 i) p) := by
          unfold addR setOf
          simp [eW, eSi]
        refine iteT ⟨_, rfl, s.r, dx2, _, rfl, er2, look_no (by decide +kernel), _, rfl, { s with S := S1 i }, p, rfl, sG, fs1 i, lok, so.fp, st.2.2, fun z => (by rw [eA] at z; cases z), fun S' hS' G2 st2 sG2 => ?_⟩
        rw [eA] at hS'
        obtain rfl := Option.some.inj hS'
        refine ⟨_, rfl, _, _, rfl, rfl, ?_⟩
        have eG2 := (st2.1 S0 _ eG (by intro _ z; cases z) (show S0 ∉ Sta.ad { s with S := S1 i } from n1)).1
        refine ⟨by rw [if_pos (by simp)]; exact st.trans st2, by rw [if_pos (by simp)]; exact sG2, eG2, some (.str p), ?_⟩
        rw [if_pos (by simp), List.length_append]
        rfl
    intro σ G h
    obtain ⟨st, sG, eG, v2, rfl⟩ := h
    have eN : (srt (keysF s.S)).map V.str = (srt (keysF s.S)).map V.str := rfl
    rw [List.length_map] at st sG ⊢
    have eT : (srt (keysF s.S)).take (srt (keysF s.S)).length = srt (keysF s.S) := List.take_length
    have eD : S1 (srt (keysF s.S)).length = dropAll s.S (goneL s) := by
      show dropAll _ _ = _
      rw [eT]
      rfl
    rw [eD] at st sG
    rw [eT]
    have eg : ((srt (keysF s.S)).filter fun p => (lk s.W p).isNone) = goneL s := rfl
    rw [eg]
    clear eG
    -- the second loop
    obtain ⟨⟨dx2, tp2, er2, ep2⟩, el2, es2, ew2, _⟩ := id sG
    refine ⟨_, rfl, s.r, C, dx2, _, _, rfl, er2, L.cl, L.nW, look_w, s.dw, _, keysF s.W, rfl, rd_of ew2, keys_inr s.W, by omega, fun ys W0 pm2 sr2 hW0 => ?_⟩
    have ey : ys = srt (keysF s.W) := srt_eq pm2 sr2
    subst ey
    have tkG := st.2.2
    have w3 : Go T G (upd G W0 (.lst ((srt (keysF s.W)).map V.str))) := go_upd tkG hW0
    have e3 : upd G W0 (.lst ((srt (keysF s.W)).map V.str)) W0 = some (.lst ((srt (keysF s.W)).map V.str)) := upd_same
    have n3 : W0 ∉ s.ad := fun z => by
      simp only [Sta.ad, List.mem_cons, List.not_mem_nil, or_false] at z
      rcases z with rfl | rfl | rfl | rfl
      · rw [er2] at hW0; cases hW0
      · rw [el2] at hW0; cases hW0
      · rw [es2] at hW0; cases hW0
      · rw [ew2] at hW0; cases hW0
    have sa3 := sG.go w3
    generalize upd G W0 (.lst ((srt (keysF s.W)).map V.str)) = G3 at w3 e3 sa3 ⊢
    have st3 : Stp T H s G3 { s with S := dropAll s.S (goneL s) } := (st1.trans st).trans (Stp.of (C := C) (s := { s with S := dropAll s.S (goneL s) }) w3 (fun b hb => absurd hb (by simp)) fun b hb => .inl hb)
    have ndW := srt_nd so.fw.nd
    have hleW : (srt (keysF s.W)).length ≤ 10 := by rw [(srt_perm _).length_eq]; exact nW
    let S2 : Nat → Files := fun i => putAll s.W (dropAll s.S (goneL s)) (((srt (keysF s.W)).take i).filter (moreB s))
    have keys2 : ∀ i p, p ∈ keysF (S2 i) → p ∈ keysF s.W := fun i p hp => by
      rcases keys_putAll hp with h | h
      · exact (mem_srt _ p).mp (List.mem_of_mem_take (List.mem_filter.mp h).1)
      · obtain ⟨z, e⟩ := keys_lk h
        rw [lk_dropAll] at e
        by_cases hg : p ∈ goneL s
        · rw [if_pos hg] at e; cases e
        · rw [if_neg hg] at e
          have hpS : p ∈ keysF s.S := (lk_iff s.S p).mp (by rw [e]; rfl)
          refine Classical.byContradiction fun hn => hg ?_
          refine List.mem_filter.mpr ⟨(mem_srt _ p).mpr hpS, ?_⟩
          cases eW : lk s.W p with
          | none => rfl
          | some y => exact absurd ((lk_iff s.W p).mp (by rw [eW]; rfl)) hn
    have fs2 : ∀ i, fsm (S2 i) := fun i => ⟨by
      have a1 := putAll_len s.W (((srt (keysF s.W)).take i).filter (moreB s)) (dropAll s.S (goneL s))
      have a2 := (dropAll_sub (goneL s) s.S).length_le
      have a3 := List.length_filter_le (moreB s) ((srt (keysF s.W)).take i)
      rw [List.length_take] at a3
      have := so.fs.n
      show (putAll _ _ _).length ≤ 100
      omega, fun p hp => so.fw.sm.2 p (keys2 i p hp)⟩
    refine ⟨W0, rfl, ⟨_, SqL.of e3⟩, for_list (xs := (srt (keysF s.W)).map V.str) (fun i σ G => Stp T H s G { s with S := S2 i } ∧ SAt C G { s with S := S2 i } ∧ G W0 = some (.lst ((srt (keysF s.W)).map V.str)) ∧ ∃ v2, σ = [some (.ref s.r), some (.int (((goneL s).length + (((srt (keysF s.W)).take i).filter (moreB s)).length : Nat) : Int)), v2]) ?_ ?_ ?_ ?_⟩
    · exact ⟨st3, sa3, e3, v2, rfl⟩
    · intro i σ G _ h
      exact SqL.of h.2.2.1
    · intro i x σ G hix h
      obtain ⟨st, sG, eG, v2, rfl⟩ := h
      obtain ⟨p, hp, rfl⟩ := str_at hix
      have hm : p ∈ keysF s.W := (mem_srt _ p).mp (List.mem_of_getElem? hp)
      obtain ⟨⟨dx2, tp2, er2, ep2⟩, el2, es2, ew2, _⟩ := id sG
      obtain ⟨q0, hq0, eq0⟩ := List.mem_map.mp hm
      have lok : lokP p := by rw [← show q0.1 = p from eq0]; exact (so.fw.q q0 hq0).1
      obtain ⟨z, ez⟩ := keys_lk hm
      have eSi : lk (S2 i) p = lk s.S p := by
        show lk (putAll _ _ _) p = _
        rw [lk_putAll, if_neg fun hz => not_take ndW hp (List.mem_filter.mp hz).1, lk_dropAll, if_neg fun hz => ?_]
        have := (List.mem_filter.mp hz).2
        rw [ez] at this
        cases this
      have eS2 : S2 (i + 1) = if moreB s p = true then fPut (S2 i) p z else S2 i := by
        show putAll s.W _ (((srt (keysF s.W)).take (i + 1)).filter (moreB s)) = _
        rw [fil_snoc hp]
        by_cases z : moreB s p = true
        · rw [if_pos z, if_pos z, putAll_snoc, ez]; rfl
        · rw [if_neg z, if_neg z, List.append_nil]
      have eV : (!decide (((lk (S2 i) p).map V.str).getD .non = V.str z)) = !decide (lk s.S p = lk s.W p) := by
        rw [eSi, ez]
        congr 1
        rw [Bool.eq_iff_iff, decide_eq_true_iff, decide_eq_true_iff]
        cases lk s.S p <;> simp
      have no : ∀ G2, Go T G G2 → moreB s p = false → Stp T H s G2 { s with S := S2 (i + 1) } ∧ SAt C G2 { s with S := S2 (i + 1) } ∧ G2 W0 = some (.lst ((srt (keysF s.W)).map V.str)) ∧ ∃ v2, [some (V.ref s.r), some (V.int (((goneL s).length + (((srt (keysF s.W)).take i).filter (moreB s)).length : Nat) : Int)), some (V.str p)] = [some (.ref s.r), some (.int (((goneL s).length + (((srt (keysF s.W)).take (i + 1)).filter (moreB s)).length : Nat) : Int)), v2] := fun G2 g2 hb => by
        rw [eS2, if_neg (by rw [hb]; decide), fil_snoc hp, if_neg (by rw [hb]; decide), List.append_nil]
        exact ⟨st.trans (Stp.of (C := C) (s := { s with S := S2 i }) g2 (fun b hb => absurd hb (by simp)) fun b hb => .inl hb), sG.go g2, g2.at eG, some (.str p), rfl⟩
      refine ⟨_, rfl, s.r, C, dx2, _, _, rfl, er2, L.cl, L.nS, look_s, s.ds, rfl, .inl ⟨_, rd_of es2⟩, _, rfl, _, din p es2, _, rfl, s.r, C, dx2, _, _, rfl, er2, L.cl, L.nW, look_w, _, rfl, s.dw, _, rfl, dget_of ew2 ez, ?_, _, rfl, ?_⟩
      · cases lk (S2 i) p <;> rfl
      change (if (!decide (((lk (S2 i) p).map V.str).getD .non = V.str z)) = true then _ else _)
      rw [eV]
      refine orR (fun ne => ?_) (fun ne => iteF (no G (GoE.refl st.2.2) (by unfold moreB; rw [ne]; rfl)))
      refine ⟨_, rfl, _, rfl, s.r, C, dx2, _, _, rfl, er2, L.cl, L.nS, look_s, s.ds, _, rfl, din p es2, _, rfl, ?_⟩
      have yes : moreB s p = true → ∀ G2, Go T G G2 → addR { s with S := S2 i } p = some (fPut (S2 i) p z) ∧ SAt C G2 { s with S := S2 i } ∧ Stp T H s G2 { s with S := S2 i } ∧ G2 W0 = some (.lst ((srt (keysF s.W)).map V.str)) := fun hb G2 g2 => by
        refine ⟨?_, sG.go g2, st.trans (Stp.of (C := C) (s := { s with S := S2 i }) g2 (fun b hb => absurd hb (by simp)) fun b hb => .inl hb), g2.at eG⟩
        have hw := way_off wf hm (keys2 i)
        unfold moreB at hb
        rw [ne, Bool.true_and] at hb
        unfold addR setOf
        simp only [ez, eSi]
        cases eS : lk s.S p with
        | some y => simp [hw]
        | none =>
          rw [eS] at hb
          have hb2 : leftOut s.P p = false := by simpa using hb
          simp [hw, hb2]
      have go2 : moreB s p = true → ∀ G2, Go T G G2 → ∀ G3, Stp T G2 { s with S := S2 i } G3 { s with S := fPut (S2 i) p z } → SAt C G3 { s with S := fPut (S2 i) p z } → Stp T H s G3 { s with S := S2 (i + 1) } ∧ SAt C G3 { s with S := S2 (i + 1) } ∧ G3 W0 = some (.lst ((srt (keysF s.W)).map V.str)) := fun hb G2 g2 G3 st2 sG3 => by
        obtain ⟨_, sG2, st2', eG2⟩ := yes hb G2 g2
        rw [eS2, if_pos hb]
        exact ⟨st2'.trans st2, sG3, (st2.1 W0 _ eG2 (by intro _ z; cases z) (show W0 ∉ Sta.ad { s with S := S2 i } from n3)).1⟩
      have cnt : moreB s p = true → (((goneL s).length + (((srt (keysF s.W)).take i).filter (moreB s)).length : Nat) : Int) + 1 = (((goneL s).length + (((srt (keysF s.W)).take (i + 1)).filter (moreB s)).length : Nat) : Int) := fun hb => by
        rw [fil_snoc hp, if_pos hb, List.length_append]
        rfl
      change (if ((lk (S2 i) p).map V.str).isSome = true then _ else _)
      rw [eSi]
      cases eS : lk s.S p with
      | some y =>
        have hb : moreB s p = true := by unfold moreB; rw [ne, eS]; rfl
        have g2 : Go T G G := GoE.refl st.2.2
        obtain ⟨eA, sG2, st2', eG2⟩ := yes hb G g2
        refine iteT (iteT ⟨_, rfl, s.r, dx2, _, rfl, er2, look_no (by decide +kernel), _, rfl, { s with S := S2 i }, p, rfl, sG2, fs2 i, lok, so.fp, g2.2, fun z => (by rw [eA] at z; cases z), fun S' hS' G3 st3 sG3 => ?_⟩)
        rw [eA] at hS'
        obtain rfl := Option.some.inj hS'
        obtain ⟨x1, x2, x3⟩ := go2 hb G g2 G3 st3 sG3
        refine ⟨_, rfl, _, _, rfl, rfl, x1, x2, x3, some (.str p), ?_⟩
        rw [← cnt hb]
        rfl
      | none =>
        refine iteF ⟨_, rfl, s.r, C, dx2, _, _, rfl, er2, L.cl, L.nP, look_p, _, rfl, tp2, p, s.P, rfl, ep2, so.fp.1, so.fp.2, lok, st.2.2, fun G2 g2 => ⟨_, rfl, ?_⟩⟩
        cases eo : leftOut s.P p with
        | true => exact iteF (no G2 g2 (by unfold moreB; rw [ne, eS, eo]; rfl))
        | false =>
          have hb : moreB s p = true := by unfold moreB; rw [ne, eS, eo]; rfl
          obtain ⟨eA, sG2, st2', eG2⟩ := yes hb G2 g2
          obtain ⟨⟨dx3, tp3, er3, ep3⟩, _⟩ := id sG2
          refine iteT ⟨_, rfl, s.r, dx3, _, rfl, er3, look_no (by decide +kernel), _, rfl, { s with S := S2 i }, p, rfl, sG2, fs2 i, lok, so.fp, g2.2, fun z => (by rw [eA] at z; cases z), fun S' hS' G3 st3 sG3 => ?_⟩
          rw [eA] at hS'
          obtain rfl := Option.some.inj hS'
          obtain ⟨x1, x2, x3⟩ := go2 hb G2 g2 G3 st3 sG3
          refine ⟨_, rfl, _, _, rfl, rfl, x1, x2, x3, some (.str p), ?_⟩
          rw [← cnt hb]
          rfl
    · intro σ G h
      obtain ⟨st, sG, eG, v2, rfl⟩ := h
      rw [List.length_map] at st sG ⊢
      have eT : (srt (keysF s.W)).take (srt (keysF s.W)).length = srt (keysF s.W) := List.take_length
      have eD : S2 (srt (keysF s.W)).length = allS s := by
        show putAll _ _ _ = _
        rw [eT]
        rfl
      rw [eD] at st sG
      rw [eT]
      exact ⟨_, rfl, k1 G st sG⟩
end
end Sg
end Text_S22
section Text_S23
set_option Elab.async false
set_option linter.all false
set_option maxRecDepth 100000
set_option maxHeartbeats 4000000
namespace Sg
open PySem PySem.Spec PyProof.Rows L2 Gx GxR
/-! the law's own helpers -/
theorem starts_cut (q p : Str) : decide (V.str (cutS q none (some ((p.length : Int) + 1))) = V.str (p ++ "/")) = Txt.startswith q (p ++ "/") := by
  have e1 : ((p.length : Int) + 1) = (((p.length + 1 : Nat)) : Int) := by omega
  have l1 : (p ++ "/" : Str).length = p.length + 1 := by rw [app_len]; rfl
  rw [Bool.eq_iff_iff, decide_eq_true_iff]
  unfold Txt.startswith
  rw [PySem.StrLaws.subAt_eq, List.drop_zero, Nat.zero_add, l1, e1, Bool.and_eq_true, decide_eq_true_iff, beq_iff_eq]
  have ec : (cutS q none (some ((p.length + 1 : Nat) : Int))).cps.toList = q.cps.toList.take (p.length + 1) := by
    unfold cutS
    rw [HT.sIx_nat, HT.sIx_none]
    show ((q.cps.toList.drop 0).take (min (p.length + 1) q.length - 0)).toArray.toList = _
    rw [List.drop_zero, Nat.sub_zero]
    rcases Nat.le_total (p.length + 1) q.length with h | h
    · rw [Nat.min_eq_left h]
    · rw [Nat.min_eq_right h, List.take_of_length_le (by rw [tl_len]; exact Nat.le_refl _), List.take_of_length_le (by rw [tl_len]; exact h)]
  constructor
  · intro h
    have h := congrArg (fun z : Str => z.cps.toList) (V.str.inj h)
    simp only [ec] at h
    have hl := congrArg List.length h
    rw [List.length_take, tl_len, tl_len, l1] at hl
    exact ⟨by omega, h⟩
  · intro h
    congr 1
    exact str_ext (by rw [ec]; exact h.2)
def fstr (A : Files) : Prop := fsm A ∧ ∀ p ∈ keysF A, okS p
theorem fok.str {A : Files} (h : fok A) : fstr A := ⟨h.sm, fun p hp => by
  obtain ⟨q, hq, rfl⟩ := List.mem_map.mp hp
  exact (h.q q hq).2.1⟩
/-- a dict stands there, locked or not -/
def DAt (H : Hp) (a : Addr) (A : Files) : Prop := H a = some (.dK (fk A)) ∨ ∃ od, H a = some (.frz od (.dK (fk A)))
def spLWay (T : Tb) : Sp := fun vs H Q _ => ∃ a p A, vs = [.ref a, .str p] ∧ DAt H a A ∧ fstr A ∧ p.cps.toList.length ≤ 100 ∧ TOk T H ∧ ∀ H', Go T H H' → Q (.bl (way A p)) H'
section
variable {P : Program} {w : World} {K : PySem.W.Frag} {mg : Str → Option Value} {base : Heap} {T : Tb}
theorem scLw : FnScope ["files", "path", "other"] ["files", "path"] (defScope sLWay) := ⟨rfl, rfl, rfl, by decide +kernel, rfl, by decide +kernel, by decide +kernel⟩
theorem strs_ne {K : PySem.W.Frag} {G : Hp} {D q : Addr} {ys : List V} {xs : List Str} {Q : VK} (al : All2 (fun y x => y = V.str x) ys xs) (ok : ∀ x ∈ xs, okS x) (eD : G D = some (.lst ys)) (eq : G q = some (.lst [])) (k : Q (.bl (!decide (xs = []))) G) : rNeD K (.ref D) (.ref q) G Q := by
  have e : ys = xs.map V.str := List.ext_getElem? fun i => by
    rw [List.getElem?_map]
    cases h : xs[i]? with
    | none => exact List.getElem?_eq_none (by rw [al.1]; exact List.getElem?_eq_none_iff.mp h)
    | some x =>
      cases h2 : ys[i]? with
      | none => exact absurd (List.getElem?_eq_none_iff.mp h2) (by rw [al.1]; have := (List.getElem?_eq_some_iff.mp h).1; omega)
      | some y => rw [al.2 i y x h2 h]; rfl
  subst e
  have pl : Pl 2 (.list (xs.map PyData.str)) = true := by
    show (xs.map PyData.str).all (Pl 1) = true
    exact pl_strs ok
  have pe : Pl 2 (.list []) = true := rfl
  refine ⟨_, _, .lst (SqL.of eD) (dp_strs xs), .lst (SqL.of eq) .nil, pl_shaped pl (by decide), by decide +kernel, ?_⟩
  have : PyData.eqv (.list (xs.map PyData.str)) (.list []) = decide (xs = []) := by
    rw [Bool.eq_iff_iff, decide_eq_true_iff, pl_eqv 2 _ _ pl pe, PyData.list.injEq, List.map_eq_nil_iff]
  rw [this]
  exact k
theorem dat_go {T : Tb} {H H' : Hp} {a : Addr} {A : Files} (g : Go T H H') (h : DAt H a A) : DAt H' a A := h.imp (fun e => g.at e) fun ⟨o, e⟩ => ⟨o, g.at e⟩
/-- a dict, when that at d is locked -/
theorem dat_lock {T : Tb} {H G : Hp} {a d : Addr} {A B : Files} {od : Obj} (ha : H a = some (.dK (fk B))) (hd : H d = some (.dK (fk A))) (g : GoE T [d] H G) (e : G d = some (.frz od (.dK (fk A)))) : DAt G a B := by
  by_cases z : a = d
  · rw [z] at ha ⊢
    rw [hd] at ha
    have := HO.dK.inj (Option.some.inj ha)
    rw [this] at e
    exact .inr ⟨od, e⟩
  · exact .inl (g.at ha (by simpa using z))
theorem DAt.rd {H : Hp} {a : Addr} {A : Files} (h : DAt H a A) : Rd H a (.dK (fk A)) := h
theorem DAt.get {H : Hp} {a : Addr} {A : Files} (h : DAt H a A) (p : Str) : DGet H a (.str p) ((lk A p).map V.str) := by
  have : DGet H a (kV (Sum.inr p)) (valV (fk A) (Sum.inr p)) := .inl ⟨fk A, Sum.inr p, h, rfl, rfl⟩
  rw [lk_fk] at this
  exact this
theorem DAt.isD {H : Hp} {a : Addr} {A : Files} (h : DAt H a A) : IsD H a := .inl ⟨_, h⟩
theorem ok_lway {f : Addr} {fd : FuncData} (F : Fun K "_law_way" "_law_way" sLWay f fd) (Y : Tx K mg) : FnOk P w K mg base CX0 1 f fd ["files", "path"] (spLWay T) := by
  refine F.ok scLw (fun vs H Q E h => ?_) (fun cdv A0 outer s H vs Q E hr h => ?_)
  · obtain ⟨a, p, A, rfl, _⟩ := h
    rfl
  · obtain ⟨a, p, A, rfl, da, ⟨sm, oks⟩, hp, tk, k⟩ := h
    have hu := hu_of hr
    have n2 : p.length ≤ 100 := by rw [← tl_len]; exact hp
    have ew : ∀ l : List Str, (!decide ((l.filter fun q => wayS p q) = [])) = l.any fun q => wayS p q := fun l => by
      rw [Bool.eq_iff_iff]
      simp [List.filter_eq_nil_iff]
    have okf : ∀ x ∈ (keysF A).filter (fun q => wayS p q), okS x := fun x hx => oks x (List.mem_filter.mp hx).1
    have fin : ∀ (G : Hp) (D : Addr) (ys : List V), Go T H G → G D = some (.lst ys) → All2 (fun y x => y = V.str x) ys ((keysF A).filter fun q => wayS p q) → tLst tNil [some (.ref a), some (.str p), none] G fun y H3 => rNeD K (.ref D) y H3 Q := fun G D ys g eD al => by
      refine ⟨by show 0 ≤ sizeLine; decide, fun q hq => ?_⟩
      refine strs_ne al okf (by rw [upd_ne (ne_of_none eD hq)]; exact eD) upd_same ?_
      rw [ew]
      exact k _ (g.trans (go_upd g.2 hq))
    rcases da with ea | ⟨od, ea⟩
    · refine ⟨_, pss_one (ps_ret (pe_cmpR (op_neDK K rfl hr.units) (pe_lock (pe_lc (own := [("other", 2)]) (g := gName 2) rfl scLw.nd (pi_keys (pv 0)) (blkOk_by (N := ["files", "path", "other"]) (sc := defScope sLWay) (by decide +kernel))
          (fun _ _ _ _ _ => pg_name (i := 2) scLw.nd rfl (Or.inl rfl))
          (fun _ _ _ _ _ => pts_one (PW.pt (pw_or (pt_cmpR op_eq (pe_slice sl_str (pv 2) po_none (po_some (pe_op op_add (pe_callB call_len_str (by rfl) Y.len PySem.boot_len (pa_cons (pv 1) pa_nil)) pe_int))) (pe_op op_add_str (pv 1) pe_str) (nomark _))
            (pw_or1 (pt_cmpR op_eq (pe_slice sl_str (pv 1) po_none (po_some (pe_op op_add (pe_callB call_len_str (by rfl) Y.len PySem.boot_len (pa_cons (pv 2) pa_nil)) pe_int))) (pe_op op_add_str (pv 2) pe_str) (nomark _))))))
          (fun _ _ _ _ _ => pv 2))) (pe_lst pa_nil) (nomark _))), ?_⟩
      refine lcK (i := 2) (A := A) (Q := fun y G => tLst tNil [some (.ref a), some (.str p), none] G fun y2 H3 => rNeD K y y2 H3 Q) (fun q => wayS p q) (fun _ y x => y = V.str x) (fun _ _ _ _ _ e => e) tk ea (by have := sm.1; omega) (fun G kk h g q => ⟨_, rfl, q⟩) (fun x hx G kk od g e q => ?_) (fun x hx hb G Q' od g e q => ⟨_, rfl, q _ G (GoE.refl g.2) rfl⟩) fun G D ys g hD eD al => fin G D ys g eD al
      have qq := q G (GoE.refl g.2)
      unfold wayS at qq
      have n1 : x.length ≤ 100 := by rw [← tl_len]; exact sm.2 x hx
      refine ⟨_, rfl, _, rfl, _, rfl, by rw [sizeLine_eq]; omega, _, _, rfl, rfl, _, rfl, x, rfl, by rw [sizeLine_eq]; omega, _, rfl, p, _, rfl, rfl, by show p.length + 1 ≤ _; rw [sizeLine_eq]; omega, rfl, _, rfl, ?_⟩
      rw [starts_cut x p]
      refine orR (fun e => ?_) (fun e => ⟨_, rfl, _, rfl, _, rfl, by rw [sizeLine_eq]; omega, _, _, rfl, rfl, _, rfl, p, rfl, by rw [sizeLine_eq]; omega, _, rfl, x, _, rfl, rfl, by show x.length + 1 ≤ _; rw [sizeLine_eq]; omega, rfl, _, rfl, ?_⟩)
      · rw [e] at qq
        exact qq
      · rw [e] at qq
        rw [starts_cut p x]
        exact qq
    · refine ⟨_, pss_one (ps_ret (pe_cmpR (op_neDK K rfl hr.units) (pe_lc (own := [("other", 2)]) (g := gName 2) rfl scLw.nd (pi_keys (pv 0)) (blkOk_by (N := ["files", "path", "other"]) (sc := defScope sLWay) (by decide +kernel))
          (fun _ _ _ _ _ => pg_name (i := 2) scLw.nd rfl (Or.inl rfl))
          (fun _ _ _ _ _ => pts_one (PW.pt (pw_or (pt_cmpR op_eq (pe_slice sl_str (pv 2) po_none (po_some (pe_op op_add (pe_callB call_len_str (by rfl) Y.len PySem.boot_len (pa_cons (pv 1) pa_nil)) pe_int))) (pe_op op_add_str (pv 1) pe_str) (nomark _))
            (pw_or1 (pt_cmpR op_eq (pe_slice sl_str (pv 1) po_none (po_some (pe_op op_add (pe_callB call_len_str (by rfl) Y.len PySem.boot_len (pa_cons (pv 2) pa_nil)) pe_int))) (pe_op op_add_str (pv 2) pe_str) (nomark _))))))
          (fun _ _ _ _ _ => pv 2)) (pe_lst pa_nil) (nomark _))), ?_⟩
      refine ⟨_, rfl, a, od, rfl, .inl ⟨fk A, ea, fun D hD => ?_⟩⟩
      have w1 : Go T H (upd H D (.lst [])) := go_upd tk hD
      have nw : ∀ {G : Hp}, GoE T [D] (upd H D (.lst [])) G → Go T H G := fun g => GoE.news w1 g fun b hb => by rw [List.mem_singleton.mp hb]; exact fresh_none hD
      refine lc_ov (fun q => wayS p q) (fun _ y x => y = V.str x) (fun _ _ _ _ _ e => e) ovk tk hD (fun G g => (nw g).at ea) (by unfold keysF; rw [List.length_map]; have := sm.1; omega) (fun x hx G kk g q => ?_) (fun x hx hb G Q' g q => ⟨_, rfl, q _ G (GoE.refl g.2) rfl⟩) fun G ys g eD al => fin G D ys (nw g) eD al
      have qq := q G (GoE.refl g.2)
      unfold wayS at qq
      have n1 : x.length ≤ 100 := by rw [← tl_len]; exact sm.2 x hx
      refine ⟨_, rfl, _, rfl, _, rfl, by rw [sizeLine_eq]; omega, _, _, rfl, rfl, _, rfl, x, rfl, by rw [sizeLine_eq]; omega, _, rfl, p, _, rfl, rfl, by show p.length + 1 ≤ _; rw [sizeLine_eq]; omega, rfl, _, rfl, ?_⟩
      rw [starts_cut x p]
      refine orR (fun e => ?_) (fun e => ⟨_, rfl, _, rfl, _, rfl, by rw [sizeLine_eq]; omega, _, _, rfl, rfl, _, rfl, p, rfl, by rw [sizeLine_eq]; omega, _, rfl, x, _, rfl, rfl, by show x.length + 1 ≤ _; rw [sizeLine_eq]; omega, rfl, _, rfl, ?_⟩)
      · rw [e] at qq
        exact qq
      · rw [e] at qq
        rw [starts_cut p x]
        exact qq
end
end Sg
end Text_S23
section Text_S24
set_option Elab.async false
set_option linter.all false
set_option maxRecDepth 100000
set_option maxHeartbeats 4000000
namespace Sg
open PySem PySem.Spec PyProof.Rows L2 Gx GxR
/-! the law's own helpers: less, more, out -/
theorem all2_map {α β γ : Type} {F : α → γ → Prop} {f : β → γ} {ys : List α} {xs : List β} (h : All2 (fun y x => F y (f x)) ys xs) : All2 F ys (xs.map f) := ⟨by rw [List.length_map]; exact h.1, fun i y z h1 h2 => by
  rw [List.getElem?_map] at h2
  cases e : xs[i]? with
  | none => rw [e] at h2; cases h2
  | some x =>
    rw [e] at h2
    obtain rfl := Option.some.inj h2
    exact h.2 i y x h1 e⟩
theorem pairs_refs {K : PySem.W.Frag} {G : Hp} : ∀ {ys : List V} {rs : Files}, All2 (PairAt G) ys rs → ∃ ps : List Addr, ys = ps.map V.ref ∧ Paired (fun p (kv : Key × V) => SqT K G p [kV kv.1, kv.2]) ps (fk rs)
  | [], [], _ => ⟨[], rfl, .nil⟩
  | [], _ :: _, h => nomatch h.1
  | _ :: _, [], h => nomatch h.1
  | y :: ys, r :: rs, h => by
    obtain ⟨t, rfl, et⟩ := h.2 0 y r rfl rfl
    obtain ⟨ps, e, q⟩ := pairs_refs (K := K) (ys := ys) (rs := rs) ⟨by have := h.1; simpa using this, fun i u v h1 h2 => h.2 (i + 1) u v (by simpa using h1) (by simpa using h2)⟩
    exact ⟨t :: ps, by rw [e]; rfl, .cons (SqT.of et) q⟩
theorem refs_inj : ∀ {ps qs : List Addr}, ps.map V.ref = qs.map V.ref → ps = qs
  | [], [], _ => rfl
  | [], _ :: _, h => nomatch h
  | _ :: _, [], h => nomatch h
  | p :: ps, q :: qs, h => by
    have := List.cons.inj h
    rw [V.ref.inj this.1, refs_inj this.2]
/-- the pairs of a table, for some of its paths -/
def pairsOf (A : Files) (xs : List Str) : Files := xs.map fun x => (x, (lk A x).getD "")
theorem lk_cons (q : Str × Str) (A : Files) (p : Str) : lk (q :: A) p = if q.1 = p then some q.2 else lk A p := by
  unfold lk
  rw [List.find?_cons]
  by_cases h : q.1 = p
  · rw [decide_eq_true h, if_pos h]; rfl
  · rw [decide_eq_false h, if_neg h]
theorem fil_pairs (pb : Str → Bool) : ∀ {A : Files}, (keysF A).Nodup → pairsOf A ((keysF A).filter pb) = A.filter fun q => pb q.1
  | [], _ => rfl
  | q :: A, nd => by
    have nd' : q.1 ∉ keysF A ∧ (keysF A).Nodup := List.nodup_cons.mp nd
    have ih := fil_pairs pb nd'.2
    have off : pairsOf (q :: A) ((keysF A).filter pb) = pairsOf A ((keysF A).filter pb) := by
      unfold pairsOf
      refine List.map_congr_left fun x hx => ?_
      have hx := (List.mem_filter.mp hx).1
      rw [lk_cons, if_neg fun z => nd'.1 (by rw [z]; exact hx)]
    show pairsOf (q :: A) ((q.1 :: keysF A).filter pb) = _
    rw [List.filter_cons, List.filter_cons]
    by_cases h : pb q.1 = true
    · rw [if_pos h, if_pos h]
      show (q.1, (lk (q :: A) q.1).getD "") :: pairsOf (q :: A) ((keysF A).filter pb) = _
      rw [off, ih, lk_cons, if_pos rfl]
      rfl
    · rw [if_neg h, if_neg h, off, ih]
theorem mergeK_snoc : ∀ (l B : List (Key × V)) (k : Key) (v : V), mergeK B (l ++ [(k, v)]) = putK (mergeK B l) k v
  | [], _, _, _ => rfl
  | q :: l, B, k, v => mergeK_snoc l (putK B q.1 q.2) k v
def spLess (T : Tb) : Sp := fun vs H Q _ => ∃ a p A, vs = [.ref a, .str p] ∧ H a = some (.dK (fk A)) ∧ (keysF A).Nodup ∧ A.length ≤ 1000 ∧ TOk T H ∧ ∀ H' d, Go T H H' → Fresh H d → H' d = some (.dK (fk (fDrop A p))) → Q (.ref d) H'
def spMore (T : Tb) : Sp := fun vs H Q _ => ∃ a p z A, vs = [.ref a, .str p, .str z] ∧ H a = some (.dK (fk A)) ∧ (keysF A).Nodup ∧ A.length ≤ 1000 ∧ TOk T H ∧ ∀ H' d, Go T H H' → Fresh H d → H' d = some (.dK (fk (fPut A p z))) → Q (.ref d) H'
def outN (n : Str) : Bool := (decide (cutS n (some (-2)) none = (".o" : Str)) || decide (n = ("t" : Str))) && !decide (n = ("k.o" : Str))
def spOut (T : Tb) : Sp := fun vs H Q _ => ∃ p n r, vs = [.str p] ∧ Txt.split p "/" = n :: r ∧ p.length ≤ 100 ∧ n.length ≤ 100 ∧ r.length ≤ 100 ∧ TOk T H ∧ ∀ H', Go T H H' → Q (.bl (outN n)) H'
section
variable {P : Program} {w : World} {K : PySem.W.Frag} {mg : Str → Option Value} {base : Heap} {T : Tb}
theorem scLs : FnScope ["files", "path", "one"] ["files", "path"] (defScope sLess) := ⟨rfl, rfl, rfl, by decide +kernel, rfl, by decide +kernel, by decide +kernel⟩
theorem ok_less {f : Addr} {fd : FuncData} (F : Fun K "_law_less" "_law_less" sLess f fd) (Y : Tx K mg) : FnOk P w K mg base CX0 1 f fd ["files", "path"] (spLess T) := by
  refine F.ok scLs (fun vs H Q E h => ?_) (fun cdv A0 outer s H vs Q E hr h => ?_)
  · obtain ⟨a, p, A, rfl, _⟩ := h
    rfl
  · obtain ⟨a, p, A, rfl, ea, nd, hl, tk, k⟩ := h
    have hu := hu_of hr
    refine ⟨_, pss_one (ps_ret (pe_callTy (call_dictP rfl) (by rfl) Y.dict (by decide +kernel) (pa_cons (pe_lock (pe_lc (own := [("one", 2)]) (g := gName 2) rfl scLs.nd (pi_keys (pv 0)) (blkOk_by (N := ["files", "path", "one"]) (sc := defScope sLess) (by decide +kernel))
          (fun _ _ _ _ _ => pg_name (i := 2) scLs.nd rfl (Or.inl rfl))
          (fun _ _ _ _ _ => pts_one (pt_cmpR op_ne (pv 2) (pv 1) (nomark _)))
          (fun _ _ _ _ _ => pe_tup (pa_cons (pv 2) (pa_cons (pe_dget hu (pv 0) (pv 2) (fun _ _ => rfl)) pa_nil))))) pa_nil))), ?_⟩
    refine lcK (i := 2) (A := A) (T := T) (fun q => !decide (q = p)) (fun G y x => PairAt G y (x, (lk A x).getD "")) (fun _ _ _ _ e h => h.ext e) tk ea hl (fun G kk h g q => ⟨_, rfl, q⟩) (fun x hx G kk od g e q => ?_) (fun x hx hb G Q' od g e q => ?_) fun G D ys g hD eD al => ?_
    · have qq := q G (GoE.refl g.2)
      refine ⟨_, rfl, _, rfl, rfl, _, rfl, ?_⟩
      rw [show decide (V.str x = V.str p) = decide (x = p) from decide_eq_decide.mpr ⟨V.str.inj, congrArg _⟩]
      exact qq
    · obtain ⟨z, hz⟩ := keys_lk hx
      have := DAt.get (dat_lock ea ea g e) x
      rw [hz] at this q
      refine ⟨_, rfl, _, rfl, _, rfl, a, _, rfl, this, by show 2 ≤ sizeLine; decide, fun t ht => q _ _ (go_upd g.2 ht) ⟨t, rfl, upd_same⟩⟩
    · have al2 := all2_map (F := PairAt G) (f := fun x => (x, (lk A x).getD "")) al
      have e2 : ((keysF A).filter fun q => !decide (q = p)).map (fun x => (x, (lk A x).getD "")) = fDrop A p := fil_pairs _ nd
      rw [e2] at al2
      obtain ⟨ps, rfl, pr⟩ := pairs_refs (K := K) al2
      refine ⟨D, ps, _, rfl, SqL.of eD, pr, fun d hd => ?_⟩
      have nd2 : ((fDrop A p).map (·.1)).Nodup := ((List.filter_sublist (l := A)).map _).nodup nd
      rw [merge_fk nd2]
      exact k _ d (g.trans (go_upd g.2 hd)) (fresh_of g hd) upd_same
theorem scMo : FnScope ["files", "path", "text"] ["files", "path", "text"] (defScope sMore) := ⟨rfl, rfl, rfl, by decide +kernel, rfl, by decide +kernel, by decide +kernel⟩
theorem ok_more {f : Addr} {fd : FuncData} (F : Fun K "_law_more" "_law_more" sMore f fd) (Y : Tx K mg) : FnOk P w K mg base CX0 1 f fd ["files", "path", "text"] (spMore T) := by
  refine F.ok scMo (fun vs H Q E h => ?_) (fun cdv A0 outer s H vs Q E hr h => ?_)
  · obtain ⟨a, p, z, A, rfl, _⟩ := h
    rfl
  · obtain ⟨a, p, z, A, rfl, ea, nd, hl, tk, k⟩ := h
    have hu := hu_of hr
    refine ⟨_, pss_one (ps_ret (pe_callTy (call_dictP rfl) (by rfl) Y.dict (by decide +kernel) (pa_cons (pe_op op_cat (LiI.pe_listItems rfl (pv 0) (by rfl) Y.list (by decide +kernel)) (pe_lst (pa_cons (pe_tup (pa_cons (pv 1) (pa_cons (pv 2) pa_nil))) pa_nil))) pa_nil))), ?_⟩
    refine ⟨_, rfl, a, _, rfl, ea, fun G l ts mono hl0 hts hlt el pr => ?_⟩
    have g : Go T H G := ⟨fun b u e _ _ => mono b u e, tk.ext mono⟩
    refine ⟨_, rfl, _, rfl, by show 2 ≤ sizeLine; decide, fun t ht => ⟨by show 1 ≤ sizeLine; decide, fun l2 hl2 => ?_⟩⟩
    have w1 : Go T G (upd G t (.tup [.str p, .str z])) := go_upd g.2 ht
    have et : upd G t (.tup [.str p, .str z]) t = some (.tup [.str p, .str z]) := upd_same
    have m1 : ∀ b o, G b = some o → upd G t (.tup [.str p, .str z]) b = some o := fun b o e => by rw [upd_ne (ne_of_none e ht)]; exact e
    generalize upd G t (.tup [.str p, .str z]) = G1 at w1 et m1 hl2 ⊢
    have w2 : Go T G1 (upd G1 l2 (.lst [.ref t])) := go_upd w1.2 hl2
    have m2 : ∀ b o, G1 b = some o → upd G1 l2 (.lst [.ref t]) b = some o := fun b o e => by rw [upd_ne (ne_of_none e hl2)]; exact e
    have e2 : upd G1 l2 (.lst [.ref t]) l2 = some (.lst [.ref t]) := upd_same
    generalize upd G1 l2 (.lst [.ref t]) = G2 at w2 m2 e2 ⊢
    have el2 := m2 _ _ (m1 _ _ el)
    have et2 := m2 _ _ et
    have hlen : ts.length = A.length := by rw [Paired.length pr, fkn]
    refine ⟨l, l2, _, _, rfl, rfl, el2, e2, by rw [List.length_map, hlen, sizeLine_eq]; show A.length + 1 ≤ _; omega, fun r hr => ?_⟩
    have w3 : Go T G2 (upd G2 r (.lst (ts.map V.ref ++ [.ref t]))) := go_upd w2.2 hr
    have m3 : ∀ b o, G2 b = some o → upd G2 r (.lst (ts.map V.ref ++ [.ref t])) b = some o := fun b o e => by rw [upd_ne (ne_of_none e hr)]; exact e
    have er : upd G2 r (.lst (ts.map V.ref ++ [.ref t])) r = some (.lst ((ts ++ [t]).map V.ref)) := by rw [upd_same, List.map_append]; rfl
    generalize upd G2 r (.lst (ts.map V.ref ++ [.ref t])) = G3 at w3 m3 er ⊢
    have pr3 : Paired (fun p (kv : Key × V) => SqT K G3 p [kV kv.1, kv.2]) (ts ++ [t]) (fk A ++ [(Sum.inr p, .str z)]) := by
      have : ∀ {l1 : List Addr} {l2 : List (Key × V)}, Paired (fun (t : Addr) (q : Key × V) => G t = some (.tup [kV q.1, q.2])) l1 l2 → Paired (fun p (kv : Key × V) => SqT K G3 p [kV kv.1, kv.2]) (l1 ++ [t]) (l2 ++ [(Sum.inr p, .str z)]) := by
        intro l1 l2 h
        induction h with
        | nil => exact .cons (SqT.of (m3 _ _ et2)) .nil
        | cons h _ ih => exact .cons (SqT.of (m3 _ _ (m2 _ _ (m1 _ _ h)))) ih
      exact this pr
    refine ⟨r, _, _, rfl, SqL.of er, pr3, fun d hd => ?_⟩
    rw [mergeK_snoc, merge_fk nd, fk_put]
    have gg := ((g.trans w1).trans w2).trans w3
    exact k _ d (gg.trans (go_upd gg.2 hd)) (fresh_of gg hd) upd_same
theorem atV0 (x : V) (l : List V) : atI (x :: l) 0 = some x := atI_nat (j := 0) (xs := x :: l) rfl
abbrev NOu : List Str := ["path", "names", "found", "one"]
theorem scOu : FnScope NOu ["path"] (defScope sOut) := ⟨rfl, rfl, rfl, by decide +kernel, rfl, by decide +kernel, by decide +kernel⟩
theorem ok_out {f : Addr} {fd : FuncData} (F : Fun K "_law_out" "_law_out" sOut f fd) (Y : Tx K mg) : FnOk P w K mg base CX0 1 f fd ["path"] (spOut T) := by
  refine F.ok scOu (fun vs H Q E h => ?_) (fun cdv A0 outer s H vs Q E hr h => ?_)
  · obtain ⟨p, n, r, rfl, _⟩ := h
    rfl
  · obtain ⟨p, n, r, rfl, es, hp, hn, hr2, tk, k⟩ := h
    have hu := hu_of hr
    refine ⟨_, pss_cons (ps_par (i := 1) (j := 2) (by rfl) scOu.nd rfl rfl (by decide) rfl rfl (pa_cons (pe_split (pv 0) pe_str) (pa_cons pe_bl pa_nil)) (by rfl))
      (pss_cons (ps_for PassesOwn.never rfl (pi_list (pe_slice (sl_listK K rfl) (pv 1) po_none (po_some pe_int))) (pg_name (i := 3) scOu.nd rfl (Or.inl rfl))
        (pss_one (ps_set (i := 2) scOu.nd rfl (Or.inl rfl) (pe_or (pe_cmpR op_eq (pe_slice sl_str (pv 3) (po_some (pe_un un_neg pe_int)) po_none) pe_str (nomark _)) (pe_one (pe_cmpR op_eq (pv 3) pe_str (nomark _)))))))
      (pss_one (ps_ret (pe_and (pv 2) (pe_one (pe_cmpR op_ne (pe_ix ix_list (pv 1) pe_int (fun _ _ => rfl)) pe_str (nomark _))))))), ?_⟩
    have hle : (n :: r : List Str).map V.str = .str n :: r.map V.str := rfl
    refine ⟨_, rfl, ⟨p, rfl⟩, p, _, rfl, rfl, by decide +kernel, by rw [sizeLine_eq]; omega, fun L hL => ⟨_, _, rfl, ?_⟩⟩
    rw [es]
    have w1 : Go T H (upd H L (.lst ((n :: r).map V.str))) := go_upd tk hL
    have eL : upd H L (.lst ((n :: r).map V.str)) L = some (.lst ((n :: r).map V.str)) := upd_same
    generalize upd H L (.lst ((n :: r).map V.str)) = H1 at w1 eL ⊢
    refine ⟨_, rfl, _, rfl, L, _, rfl, SqL.of eL, fun l hl => ⟨l, rfl, ?_⟩⟩
    have w2 : Go T H1 (upd H1 l (.lst [.str n])) := go_upd w1.2 hl
    have e2 : upd H1 l (.lst [.str n]) l = some (.lst [.str n]) := upd_same
    have ec : cutV ((n :: r).map V.str) none (some 1) = [.str n] := cutV_take _ 1
    rw [ec]
    have eL2 := w2.at eL
    generalize upd H1 l (.lst [.str n]) = H2 at w2 e2 eL2 ⊢
    have ev : ∀ (x y : Str), decide (V.str x = V.str y) = decide (x = y) := fun x y => decide_eq_decide.mpr ⟨V.str.inj, congrArg _⟩
    have ne1 : ∀ b : Bool, (decide (V.str n = V.str "t")) = decide (n = ("t" : Str)) := fun _ => ev _ _
    refine ⟨⟨_, SqL.of e2⟩, for_list (xs := [.str n]) (fun i σ G => G = H2 ∧ (i = 0 ∧ σ = [some (.str p), some (.ref L), some (.bl false), none] ∨ i = 1 ∧ σ = [some (.str p), some (.ref L), some (.bl (decide (cutS n (some (-2)) none = (".o" : Str)) || decide (n = ("t" : Str)))), some (.str n)])) ⟨rfl, .inl ⟨rfl, rfl⟩⟩ (fun i σ G _ h => by rw [h.1]; exact SqL.of e2) (fun i x σ G hx h => ?_) (fun σ G h => ?_)⟩
    · obtain ⟨rfl, ⟨rfl, rfl⟩ | ⟨rfl, _⟩⟩ := h
      · cases hx
        refine ⟨_, rfl, _, rfl, _, rfl, n, rfl, by rw [sizeLine_eq]; omega, rfl, _, rfl, ?_⟩
        rw [ev]
        refine orR (fun e => ⟨rfl, .inr ⟨rfl, ?_⟩⟩) (fun e => ⟨_, rfl, rfl, ?_⟩)
        · rw [e]; rfl
        · rw [ev]
          refine ⟨rfl, .inr ⟨rfl, ?_⟩⟩
          rw [e]; rfl
      · cases hx
    · obtain ⟨rfl, ⟨h0, _⟩ | ⟨_, rfl⟩⟩ := h
      · cases h0
      · refine ⟨_, rfl, _, rfl, ?_⟩
        have kk := k G (w1.trans w2)
        unfold outN at kk
        refine orR (fun e => ⟨_, rfl, _, _, _, V.str n, rfl, rfl, SqL.of eL2, atV0 _ _, rfl, ?_⟩) (fun e => ?_)
        · rw [ev]
          rw [e] at kk
          exact kk
        · rw [e] at kk
          exact kk
end
end Sg
end Text_S24
section Text_S25
set_option Elab.async false
set_option linter.all false
set_option maxRecDepth 100000
set_option maxHeartbeats 4000000
namespace Sg
open PySem PySem.Spec PyProof.Rows L2 Gx GxR
/-! _law_changes -/
def whatOf (A B : Files) (p : Str) : Str := if (lk A p).isNone = true then "come" else if (lk B p).isNone = true then "gone" else "other"
def diffB (A B : Files) (p : Str) : Bool := !decide (lk A p = lk B p)
theorem chgOf_law {A B : Files} {p : Str} (h : (lk A p).isSome = true ∨ (lk B p).isSome = true) : chgOf A B p = if diffB A B p = true then some (whatOf A B p, p) else none := by
  unfold chgOf diffB whatOf
  cases eA : lk A p with
  | none =>
    cases eB : lk B p with
    | none => rw [eA, eB] at h; simp at h
    | some y => rfl
  | some x =>
    cases eB : lk B p with
    | none => rfl
    | some y =>
      by_cases z : x = y
      · simp [z]
      · simp [z]
theorem chg_law (A B : Files) : ((paths A B).filter (diffB A B)).map (fun p => (whatOf A B p, p)) = chg A B := by
  unfold chg
  have hp : ∀ p ∈ paths A B, (lk A p).isSome = true ∨ (lk B p).isSome = true := fun p hp => by
    rcases paths_mem hp with ⟨q, hq, rfl⟩ | ⟨q, hq, rfl⟩
    · exact .inl ((lk_iff A q.1).mpr (List.mem_map.mpr ⟨q, hq, rfl⟩))
    · exact .inr ((lk_iff B q.1).mpr (List.mem_map.mpr ⟨q, hq, rfl⟩))
  revert hp
  induction paths A B with
  | nil => intro _; rfl
  | cons p l ih =>
    intro hp
    have ih := ih fun q hq => hp q (List.mem_cons_of_mem _ hq)
    rw [List.filter_cons, List.filterMap_cons, chgOf_law (hp p List.mem_cons_self)]
    by_cases z : diffB A B p = true
    · rw [if_pos z, if_pos z, List.map_cons, ih]
    · rw [if_neg z, if_neg z, ih]
def spLChg (T : Tb) : Sp := fun vs H Q _ => ∃ a b A B, vs = [.ref a, .ref b] ∧ H a = some (.dK (fk A)) ∧ H b = some (.dK (fk B)) ∧ A.length ≤ 10 ∧ B.length ≤ 10 ∧ TOk T H ∧
  ∀ H' t xs, Go T H H' → H' t = some (.lst xs) → All2 (PairAt H') xs (chg A B) → Q (.ref t) H'
abbrev NLc : List Str := ["one", "other", "paths", "path"]
section
variable {P : Program} {w : World} {K : PySem.W.Frag} {mg : Str → Option Value} {base : Heap} {T : Tb}
theorem scLc : FnScope NLc ["one", "other"] (defScope sLChg) := ⟨rfl, rfl, rfl, by decide +kernel, rfl, by decide +kernel, by decide +kernel⟩
theorem ok_lchg {f : Addr} {fd : FuncData} (F : Fun K "_law_changes" "_law_changes" sLChg f fd) (X : Tx K mg) : FnOk P w K mg base CX0 1 f fd ["one", "other"] (spLChg T) := by
  refine F.ok scLc (fun vs H Q E h => ?_) (fun cdv A0 outer s H vs Q E hr h => ?_)
  · obtain ⟨a, b, A, B, rfl, _⟩ := h
    rfl
  · obtain ⟨a, b, A, B, rfl, ha, hb, lA, lB, tk, k1⟩ := h
    have hu := hu_of hr
    refine ⟨_, pss_cons (ps_set (i := 2) scLc.nd rfl (Or.inl rfl) (pe_callB (call_sortedD rfl) (by rfl) X.sorted (by decide +kernel) (pa_cons (pe_callTy (call_dictP rfl) (by rfl) X.dict (by decide +kernel) (pa_cons (pe_lc (own := [("path", 3)]) (g := gName 3) (tt := tYes) rfl scLc.nd
          (pi_list (pe_op op_cat (pe_callTy (call_listD rfl) (by rfl) X.list (by decide +kernel) (pa_cons (pv 0) pa_nil)) (pe_callTy (call_listD rfl) (by rfl) X.list (by decide +kernel) (pa_cons (pv 1) pa_nil))))
          (blkOk_by (N := NLc) (sc := defScope sLChg) (by decide +kernel)) (fun _ _ _ _ _ => pg_name (i := 3) scLc.nd rfl (Or.inl rfl)) (fun _ _ _ _ _ => pts_nil) (fun _ _ _ _ _ => pe_tup (pa_cons (pv 3) (pa_cons pe_int pa_nil)))) pa_nil)) pa_nil)))
      (pss_one (ps_ret (pe_lc (own := [("path", 3)]) (g := gName 3) rfl scLc.nd (pi_list (pv 2)) (blkOk_by (N := NLc) (sc := defScope sLChg) (by decide +kernel)) (fun _ _ _ _ _ => pg_name (i := 3) scLc.nd rfl (Or.inl rfl))
        (fun _ _ _ _ _ => pts_one (pt_cmpR op_ne (pe_dget1 hu (pv 0) (pv 3) ⟨rfl, rfl, rfl, rfl⟩) (pe_dget1 hu (pv 1) (pv 3) ⟨rfl, rfl, rfl, rfl⟩) (nomark _)))
        (fun _ _ _ _ _ => pe_tup (pa_cons (pe_ifExp (pt_cmp (pc_dnotin hu (pv 3) (pv 0))) pe_str (pe_ifExp (pt_cmp (pc_dnotin hu (pv 3) (pv 1))) pe_str pe_str)) (pa_cons (pv 3) pa_nil)))))), ?_⟩
    refine ⟨_, rfl, a, fk A, rfl, Rd.of ha, fun p hp => ⟨_, rfl, b, fk B, rfl, ?_⟩⟩
    have g2 : Go T H _ := go_upd (o := .lst ((fk A).map fun kv => kV kv.1)) tk hp
    refine ⟨Rd.of (g2.at hb), fun q hq => ?_⟩
    have g3 := g2.trans (go_upd (o := .lst ((fk B).map fun kv => kV kv.1)) g2.2 hq)
    have hpq : p ≠ q := fun e => by rw [← e, upd_same] at hq; cases hq
    refine ⟨p, q, _, _, rfl, rfl, by rw [upd_ne hpq]; exact upd_same, upd_same, by rw [List.length_map, List.length_map, fk_len, fk_len, sizeLine_eq]; omega, fun r hr => ?_⟩
    have g4 := g3.trans (go_upd (o := .lst (((fk A).map fun kv => kV kv.1) ++ (fk B).map fun kv => kV kv.1)) g3.2 hr)
    have ek : (((fk A).map fun kv => kV kv.1) ++ (fk B).map fun kv => kV kv.1) = (A.map (·.1) ++ B.map (·.1)).map V.str := by
      unfold fk
      rw [List.map_map, List.map_map, List.map_append, List.map_map, List.map_map]
      rfl
    rw [ek] at g4 ⊢
    have er : upd (upd (upd H p (.lst ((fk A).map fun kv => kV kv.1))) q (.lst ((fk B).map fun kv => kV kv.1))) r (.lst ((A.map (·.1) ++ B.map (·.1)).map V.str)) r = some (.lst ((A.map (·.1) ++ B.map (·.1)).map V.str)) := upd_same
    generalize upd (upd (upd H p (.lst ((fk A).map fun kv => kV kv.1))) q (.lst ((fk B).map fun kv => kV kv.1))) r (.lst ((A.map (·.1) ++ B.map (·.1)).map V.str)) = H4 at g4 er ⊢
    have hl20 : (A.map (·.1) ++ B.map (·.1)).length ≤ 20 := by rw [List.length_append, List.length_map, List.length_map]; omega
    generalize hxs : A.map (·.1) ++ B.map (·.1) = xs at er hl20 ⊢
    refine ⟨r, rfl, ⟨_, SqL.of er⟩, fun D hD => ?_⟩
    have hrD : r ≠ D := ne_of_none er hD
    have w5 : Go T H4 (upd H4 D (.lst [])) := go_upd g4.2 hD
    refine lc_pairs (T := T) (ov_l (K := K) (a := r) (xs := xs.map V.str)) g4.2 hD (fun G g => SqL.of (g.at (w5.at er) (by simpa using hrD))) (by omega) (fun x G Q' q => ⟨_, rfl, by show 2 ≤ sizeLine; decide, q⟩) fun G ps g eD al => ?_
    have nw : Go T H4 G := GoE.news w5 g fun b hb => by rw [List.mem_singleton.mp hb]; exact fresh_none hD
    have h5 := g4.trans nw
    refine ⟨D, ps, _, rfl, SqL.of eD, dict_paired al, fun d hd => ?_⟩
    rw [merge_keys]
    have w6 : Go T G (upd G d (.dK (keyTab (.int 1) (uniq xs)))) := go_upd h5.2 hd
    have h6 := h5.trans w6
    have hlen : (uniq xs).length ≤ 20 := Nat.le_trans (uniq_len _) hl20
    have ed : upd G d (.dK (keyTab (.int 1) (uniq xs))) d = some (.dK (keyTab (.int 1) (uniq xs))) := upd_same
    generalize upd G d (.dK (keyTab (.int 1) (uniq xs))) = G6 at w6 h6 ed ⊢
    refine ⟨d, _, uniq xs, rfl, Rd.of ed, keyTab_keys _ _, by omega, fun ys S pm sr hS => ?_⟩
    have ey : ys = paths A B := by unfold paths so; rw [hxs]; exact srt_eq pm sr
    subst ey
    have plen : (paths A B).length ≤ 20 := by rw [pm.length_eq]; exact hlen
    have w7 : Go T G6 (upd G6 S (.lst ((paths A B).map V.str))) := go_upd h6.2 hS
    have eS : upd G6 S (.lst ((paths A B).map V.str)) S = some (.lst ((paths A B).map V.str)) := upd_same
    have h7 := h6.trans w7
    generalize upd G6 S (.lst ((paths A B).map V.str)) = G7 at w7 eS h7 ⊢
    have ha7 := h7.at ha
    have hb7 := h7.at hb
    refine ⟨_, rfl, S, rfl, ⟨_, SqL.of eS⟩, fun D2 hD2 => ?_⟩
    have w8 : Go T G7 (upd G7 D2 (.lst [])) := go_upd h7.2 hD2
    have nw8 : ∀ {G : Hp}, GoE T [D2] (upd G7 D2 (.lst [])) G → Go T G7 G := fun g => GoE.news w8 g fun b hb => by rw [List.mem_singleton.mp hb]; exact fresh_none hD2
    refine lc_ov (diffB A B) (fun G y x => PairAt G y (whatOf A B x, x)) (fun _ _ _ _ e h => h.ext e) ov_l h7.2 hD2 (fun G g => SqL.of ((nw8 g).at eS)) (by omega) (fun x hx G kk g q => ?_) (fun x hx hb2 G Q' g q => ?_) fun G ys g eD2 al2 => ?_
    · have a1 : DAt G a A := .inl ((nw8 g).at ha7)
      have b1 : DAt G b B := .inl ((nw8 g).at hb7)
      have qq := q G (GoE.refl g.2)
      have ga := a1.get x
      have gb := b1.get x
      unfold diffB at qq
      cases eA : lk A x with
      | none =>
        rw [eA] at ga qq
        cases eB : lk B x with
        | none =>
          rw [eB] at gb qq
          exact ⟨_, rfl, a, rfl, a1.isD, _, rfl, _, ga, _, rfl, b, rfl, b1.isD, _, rfl, _, gb, rfl, _, rfl, qq⟩
        | some y =>
          rw [eB] at gb qq
          exact ⟨_, rfl, a, rfl, a1.isD, _, rfl, _, ga, _, rfl, b, rfl, b1.isD, _, rfl, _, gb, rfl, _, rfl, qq⟩
      | some z =>
        rw [eA] at ga qq
        cases eB : lk B x with
        | none =>
          rw [eB] at gb qq
          exact ⟨_, rfl, a, rfl, a1.isD, _, rfl, _, ga, _, rfl, b, rfl, b1.isD, _, rfl, _, gb, rfl, _, rfl, qq⟩
        | some y =>
          rw [eB] at gb qq
          refine ⟨_, rfl, a, rfl, a1.isD, _, rfl, _, ga, _, rfl, b, rfl, b1.isD, _, rfl, _, gb, rfl, _, rfl, ?_⟩
          show kk (!decide (V.str z = V.str y)) G
          rw [show decide (V.str z = V.str y) = decide (some z = some y) from decide_eq_decide.mpr ⟨fun e => congrArg _ (V.str.inj e), fun e => congrArg _ (Option.some.inj e)⟩]
          exact qq
    · have a1 : DAt G a A := .inl ((nw8 g).at ha7)
      have b1 : DAt G b B := .inl ((nw8 g).at hb7)
      have ga := a1.get x
      have gb := b1.get x
      unfold whatOf at q
      refine ⟨_, rfl, _, rfl, a, _, rfl, ga, _, rfl, ?_⟩
      cases eA : lk A x with
      | none =>
        rw [eA] at q
        exact iteT ⟨_, rfl, by show 2 ≤ sizeLine; decide, fun t ht => q _ _ (go_upd g.2 ht) ⟨t, rfl, upd_same⟩⟩
      | some z =>
        rw [eA] at q
        refine iteF ⟨_, rfl, _, rfl, b, _, rfl, gb, _, rfl, ?_⟩
        cases eB : lk B x with
        | none =>
          rw [eB] at q
          exact iteT ⟨_, rfl, by show 2 ≤ sizeLine; decide, fun t ht => q _ _ (go_upd g.2 ht) ⟨t, rfl, upd_same⟩⟩
        | some y =>
          rw [eB] at q
          exact iteF ⟨_, rfl, by show 2 ≤ sizeLine; decide, fun t ht => q _ _ (go_upd g.2 ht) ⟨t, rfl, upd_same⟩⟩
    · have al3 := all2_map (F := PairAt G) (f := fun x => (whatOf A B x, x)) al2
      rw [chg_law] at al3
      exact k1 G D2 ys (h7.trans (nw8 g)) eD2 al3
end
end Sg
end Text_S25
section Text_S26
set_option Elab.async false
set_option linter.all false
set_option maxRecDepth 100000
set_option maxHeartbeats 4000000
namespace L2
theorem PE.weak {X : Cx} {e : PySem.Expr} {t u : TE} (h : PE X e t) (i : ∀ σ H Q, u σ H Q → t σ H Q) : PE X e u := ⟨fun pins s σ H Q I q => h.run pins s σ H Q I (i _ _ _ q)⟩
end L2
namespace Sg
open PySem PySem.Spec PyProof.Rows L2 Gx GxR
/-- where the methods stand -/
structure MD where
  fI : Addr
  fL : Addr
  fW : Addr
  fE : Addr
  fA : Addr
  fZ : Addr
  fR : Addr
  fY : Addr
  fS : Addr
  fC : Addr
  fK : Addr
  fT : Addr
  fM : Addr
  dI : FuncData
  dL : FuncData
  dW : FuncData
  dE : FuncData
  dA : FuncData
  dZ : FuncData
  dR : FuncData
  dY : FuncData
  dS : FuncData
  dC : FuncData
  dK : FuncData
  dT : FuncData
  dM : FuncData
/-- the methods with their promises -/
structure Ms (P : Program) (w : World) (K : PySem.W.Frag) (mg : Str → Option Value) (base : Heap) (T : Tb) (C CP CG CS : Addr) (M : MD) : Prop where
  L : Cl K mg C
  X : Er K mg CP CG CS
  Y : Tx K mg
  mm : Mk K C M.fI
  GI : FnOk P w K mg base (L2.CX P w) 5 M.fI M.dI ["self", "files"] (spInit C T CP)
  bI : Binds K M.dI ["self", "files"] []
  GL : FnOk P w K mg base (L2.CX P w) 3 M.fL M.dL ["self", "patterns"] (spLeave C T CG)
  mL : Meth K C "leave_out" M.fL
  bL : Binds K M.dL ["self", "patterns"] []
  GW : FnOk P w K mg base (L2.CX P w) 5 M.fW M.dW ["self", "path", "text"] (spWrite C T CP)
  mW : Meth K C "write" M.fW
  bW : Binds K M.dW ["self", "path", "text"] []
  GE : FnOk P w K mg base (L2.CX P w) 1 M.fE M.dE ["self", "path"] (spErase C T CG)
  mE : Meth K C "erase" M.fE
  bE : Binds K M.dE ["self", "path"] []
  GA : FnOk P w K mg base (L2.CX P w) 22 M.fA M.dA ["self", "path"] (spAdd C T CG)
  mA : Meth K C "add" M.fA
  bA : Binds K M.dA ["self", "path"] []
  GZ : FnOk P w K mg base CX0 23 M.fZ M.dZ ["self"] (spAll C T)
  mZ : Meth K C "add_all" M.fZ
  bZ : Binds K M.dZ ["self"] []
  GR : FnOk P w K mg base (L2.CX P w) 4 M.fR M.dR ["self", "path"] (spReset C T CG)
  mR : Meth K C "reset" M.fR
  bR : Binds K M.dR ["self", "path"] []
  GY : FnOk P w K mg base (L2.CX P w) 4 M.fY M.dY ["self", "path"] (spRestore C T CG)
  mY : Meth K C "restore" M.fY
  bY : Binds K M.dY ["self", "path"] []
  GS : FnOk P w K mg base CX0 22 M.fS M.dS ["self"] (spStat C T)
  mS : Meth K C "status" M.fS
  bS : Binds K M.dS ["self"] []
  GC : FnOk P w K mg base CX0 23 M.fC M.dC ["self"] (spClean C T)
  mC : Meth K C "is_clean" M.fC
  bC : Binds K M.dC ["self"] []
  GK : FnOk P w K mg base CX0 1 M.fK M.dK ["self"] (spKeep C T)
  mK : Meth K C "keep" M.fK
  bK : Binds K M.dK ["self"] []
  GT : FnOk P w K mg base (L2.CX P w) 24 M.fT M.dT ["self", "files"] (spMoveTo C T CG CP)
  mT : Meth K C "move_to" M.fT
  bT : Binds K M.dT ["self", "files"] []
  GM : FnOk P w K mg base (L2.CX P w) 5 M.fM M.dM ["self", "path", "other"] (spMove C T CG CP)
  mM : Meth K C "move_file" M.fM
  bM : Binds K M.dM ["self", "path", "other"] []
/-- the lambdas that _law_plain lists -/
def lams : List Expr := match (defBody sPlain).getD 1 noS with
  | .Assign _ (.List es _) _ => es
  | _ => []
def lamAt (j : Nat) : Expr := lams.getD j (.Constant .none 0 ⟨0, 0, 0, 0⟩)
def lamA (j : Nat) : Arguments := match lamAt j with
  | .Lambda p _ _ _ => p
  | _ => ⟨[], [], none, [], [], none, []⟩
def lamB (j : Nat) : Expr := match lamAt j with
  | .Lambda _ b _ _ => b
  | e => e
def lamSc (j : Nat) : Scope := match lamAt j with
  | .Lambda _ _ s _ => s
  | _ => defScope sPlain
theorem lams_len : lams.length = 13 := by decide +kernel
theorem alls {p : Nat → Prop} (h0 : p 0) (h1 : p 1) (h2 : p 2) (h3 : p 3) (h4 : p 4) (h5 : p 5) (h6 : p 6) (h7 : p 7) (h8 : p 8) (h9 : p 9) (h10 : p 10) (h11 : p 11) (h12 : p 12) (j : Nat) (h : j < 13) : p j := by
  rcases j with _ | _ | _ | _ | _ | _ | _ | _ | _ | _ | _ | _ | _ | j
  · exact h0
  · exact h1
  · exact h2
  · exact h3
  · exact h4
  · exact h5
  · exact h6
  · exact h7
  · exact h8
  · exact h9
  · exact h10
  · exact h11
  · exact h12
  · omega
abbrev NP : List Str := ["bad", "f", "stage"]
def SLam (j : Nat) : Prop := LamX.LamS (defScope sPlain) (lamSc j)
theorem slams : ∀ j, j < 13 → SLam j := alls (p := SLam) (LamX.lamS_by (by decide +kernel)) (LamX.lamS_by (by decide +kernel)) (LamX.lamS_by (by decide +kernel)) (LamX.lamS_by (by decide +kernel)) (LamX.lamS_by (by decide +kernel)) (LamX.lamS_by (by decide +kernel)) (LamX.lamS_by (by decide +kernel)) (LamX.lamS_by (by decide +kernel)) (LamX.lamS_by (by decide +kernel)) (LamX.lamS_by (by decide +kernel)) (LamX.lamS_by (by decide +kernel)) (LamX.lamS_by (by decide +kernel)) (LamX.lamS_by (by decide +kernel))
theorem lamA0 : lamA 0 = ⟨[], [], none, [], [], none, []⟩ := by rfl
theorem lamA1 : lamA 1 = ⟨[], [], none, [], [], none, []⟩ := by rfl
theorem lamA2 : lamA 2 = ⟨[], [], none, [], [], none, []⟩ := by rfl
theorem lamA3 : lamA 3 = ⟨[], [], none, [], [], none, []⟩ := by rfl
theorem lamA4 : lamA 4 = ⟨[], [], none, [], [], none, []⟩ := by rfl
theorem lamA5 : lamA 5 = ⟨[], [], none, [], [], none, []⟩ := by rfl
theorem lamA6 : lamA 6 = ⟨[], [], none, [], [], none, []⟩ := by rfl
theorem lamA7 : lamA 7 = ⟨[], [], none, [], [], none, []⟩ := by rfl
theorem lamA8 : lamA 8 = ⟨[], [], none, [], [], none, []⟩ := by rfl
theorem lamA9 : lamA 9 = ⟨[], [], none, [], [], none, []⟩ := by rfl
theorem lamA10 : lamA 10 = ⟨[], [], none, [], [], none, []⟩ := by rfl
theorem lamA11 : lamA 11 = ⟨[], [], none, [], [], none, []⟩ := by rfl
theorem lamA12 : lamA 12 = ⟨[], [], none, [], [], none, []⟩ := by rfl
theorem lamAs : ∀ j, j < 13 → lamA j = ⟨[], [], none, [], [], none, []⟩ := alls (p := fun j => lamA j = ⟨[], [], none, [], [], none, []⟩) lamA0 lamA1 lamA2 lamA3 lamA4 lamA5 lamA6 lamA7 lamA8 lamA9 lamA10 lamA11 lamA12
theorem bind0 (q : Str) (body : Expr) (scope : Scope) (cl : List (Str × Addr)) (pm cv ctv : Value) : bindArgs (PySem.W.kla_fn "<lambda>" q ⟨[], [], none, [], [], none, []⟩ body scope cl pm cv ctv) ⟨[], []⟩ = pure [] := by rfl
theorem bindLs (j : Nat) (hj : j < 13) (q : Str) (cl : List (Str × Addr)) (pm cv ctv : Value) : bindArgs (PySem.W.kla_fn "<lambda>" q (lamA j) (lamB j) (lamSc j) cl pm cv ctv) ⟨[], []⟩ = pure [] := by
  rw [lamAs j hj]
  exact bind0 _ _ _ _ _ _ _
theorem SAt.some {C : Addr} {H : Hp} {s : Sta} (a : SAt C H s) : ∀ b ∈ s.ad, ∃ o, H b = some o ∧ ∀ ps, o ≠ .tbl ps := fun b hb => by
  obtain ⟨dx, tp, er, ep⟩ := a.ob
  simp only [Sta.ad, List.mem_cons, List.not_mem_nil, or_false] at hb
  rcases hb with rfl | rfl | rfl | rfl
  · exact ⟨_, er, by intro _ z; cases z⟩
  · exact ⟨_, a.el, by intro _ z; cases z⟩
  · exact ⟨_, a.es, by intro _ z; cases z⟩
  · exact ⟨_, a.ew, by intro _ z; cases z⟩
theorem SAt.off {C : Addr} {H : Hp} {s : Sta} {q : Addr} (a : SAt C H s) (f : Fresh H q) : q ∉ s.ad := fun hq => by
  obtain ⟨o, e, n⟩ := a.some q hq
  obtain ⟨ps, z⟩ := f o e
  exact n ps z
/-- a stage of one file -/
def one1 : Files := [("a", "x")]
def isOne (s : Sta) : Prop := s.L = one1 ∧ s.S = one1 ∧ s.W = one1 ∧ s.P = []
/-- what each of the lambdas does: it raises -/
def tBad (C : Addr) (T : Tb) (CP CG : Addr) (E : XK) : TE := fun σ H _ => ∃ s : Sta, σ[2]? = some (some (.ref s.r)) ∧ SAt C H s ∧ isOne s ∧ TOk T H ∧ ∀ H' c, Go T H H' → c = CP ∨ c = CG → E (.ref c) none H'
section
variable {P : Program} {w : World} {K : PySem.W.Frag} {mg : Str → Option Value} {base : Heap} {T : Tb} {C CP CG CS : Addr} {M : MD}
/-- the context of _law_plain -/
abbrev XP (P : Program) (w : World) (K : PySem.W.Frag) (mg : Str → Option Value) (base : Heap) (fp cp : Addr) (Ao : Around) (oo : List Env) (so : Shared) (Ho : Hp) (Eo : XK) : Cx := (cxOf CX0 P w K mg base NP "_law_plain" (defScope sPlain) fp (.ref cp) Ao oo so Ho Eo).nox
variable {fp cp f c' : Addr} {Ao A : Around} {oo outer : List Env} {so s : Shared} {Ho H : Hp} {Eo E : XK}
theorem lb0 (m : Ms P w K mg base T C CP CG CS M) (hr : Room 24 (A.deeper (LamX.lamEnv (XP P w K mg base fp cp Ao oo so Ho Eo) (lamSc 0) s.heap.objs.size f c'))) : PE (LamX.lamCx (XP P w K mg base fp cp Ao oo so Ho Eo) A outer s H E (lamSc 0) f c') (lamB 0) (tBad C T CP CG E) := by
  refine L2.PE.weak (pe_make m.mm m.GI (hr.mono (by decide)) rfl m.L.mgC m.bI .nil (passes_call (takes_of rfl rfl rfl rfl) (fun _ _ _ _ e => e)) (pa_cons (pe_disp (pps_cons pe_str pe_str pps_nil) (by rfl) (by rfl) (fun z => by cases z) (by decide)) pa_nil)) fun σ H Q h => ?_
  obtain ⟨s, e2, sa, ⟨oL, oS, oW, oP⟩, tk, k⟩ := h
  obtain ⟨⟨dx, tp, er, ep⟩, el, es, ew, n1, n2, n3⟩ := id sa
  refine fun q hq => ⟨upd_same, [((Sum.inr "" : Key), V.str "x")], rfl, by decide, ?_⟩
  rw [upd_upd, show mergeK [] [((Sum.inr "" : Key), V.str "x")] = fk [("", "x")] by decide +kernel]
  have w1 : Go T H (upd H q (.dK (fk [("", "x")]))) := go_upd tk hq
  have eq : upd H q (.dK (fk [("", "x")])) q = some (.dK (fk [("", "x")])) := upd_same
  generalize upd H q (.dK (fk [("", "x")])) = H1 at w1 eq ⊢
  intro x dx hx hdx nx
  have w2 : Go T H1 (upd H1 dx (.own x)) := go_upd w1.2 hdx
  have hx2 : upd H1 dx (.own x) x = none := by rw [upd_ne (Ne.symm nx)]; exact hx
  have w3 : Go T (upd H1 dx (.own x)) (upd (upd H1 dx (.own x)) x (.ins C dx [])) := go_upd w2.2 hx2
  exact ⟨x, dx, q, [("", "x")], rfl, upd_same, (w2.trans w3).at eq, by unfold fsm; decide +kernel, w3.2, fun _ H' g => k H' _ (GoE.news (w1.trans (w2.trans w3)) g fun b hb => by rw [List.mem_singleton.mp hb]; exact fresh_none hq) (.inl rfl), fun z => absurd z (by decide +kernel)⟩
theorem lb1 (m : Ms P w K mg base T C CP CG CS M) (hr : Room 24 (A.deeper (LamX.lamEnv (XP P w K mg base fp cp Ao oo so Ho Eo) (lamSc 1) s.heap.objs.size f c'))) : PE (LamX.lamCx (XP P w K mg base fp cp Ao oo so Ho Eo) A outer s H E (lamSc 1) f c') (lamB 1) (tBad C T CP CG E) := by
  refine L2.PE.weak (pe_make m.mm m.GI (hr.mono (by decide)) rfl m.L.mgC m.bI .nil (passes_call (takes_of rfl rfl rfl rfl) (fun _ _ _ _ e => e)) (pa_cons (pe_disp (pps_cons pe_str pe_str (pps_cons pe_str pe_str pps_nil)) (by rfl) (by rfl) (fun z => by cases z) (by decide)) pa_nil)) fun σ H Q h => ?_
  obtain ⟨s, e2, sa, ⟨oL, oS, oW, oP⟩, tk, k⟩ := h
  obtain ⟨⟨dx, tp, er, ep⟩, el, es, ew, n1, n2, n3⟩ := id sa
  refine fun q hq => ⟨upd_same, [((Sum.inr "a" : Key), V.str ""), ((Sum.inr "a/b" : Key), V.str "")], rfl, by decide, ?_⟩
  rw [upd_upd, show mergeK [] [((Sum.inr "a" : Key), V.str ""), ((Sum.inr "a/b" : Key), V.str "")] = fk [("a", ""), ("a/b", "")] by decide +kernel]
  have w1 : Go T H (upd H q (.dK (fk [("a", ""), ("a/b", "")]))) := go_upd tk hq
  have eq : upd H q (.dK (fk [("a", ""), ("a/b", "")])) q = some (.dK (fk [("a", ""), ("a/b", "")])) := upd_same
  generalize upd H q (.dK (fk [("a", ""), ("a/b", "")])) = H1 at w1 eq ⊢
  intro x dx hx hdx nx
  have w2 : Go T H1 (upd H1 dx (.own x)) := go_upd w1.2 hdx
  have hx2 : upd H1 dx (.own x) x = none := by rw [upd_ne (Ne.symm nx)]; exact hx
  have w3 : Go T (upd H1 dx (.own x)) (upd (upd H1 dx (.own x)) x (.ins C dx [])) := go_upd w2.2 hx2
  exact ⟨x, dx, q, [("a", ""), ("a/b", "")], rfl, upd_same, (w2.trans w3).at eq, by unfold fsm; decide +kernel, w3.2, fun _ H' g => k H' _ (GoE.news (w1.trans (w2.trans w3)) g fun b hb => by rw [List.mem_singleton.mp hb]; exact fresh_none hq) (.inl rfl), fun z => absurd z (by decide +kernel)⟩
theorem lb2 (m : Ms P w K mg base T C CP CG CS M) (hr : Room 24 (A.deeper (LamX.lamEnv (XP P w K mg base fp cp Ao oo so Ho Eo) (lamSc 2) s.heap.objs.size f c'))) : PE (LamX.lamCx (XP P w K mg base fp cp Ao oo so Ho Eo) A outer s H E (lamSc 2) f c') (lamB 2) (tBad C T CP CG E) := by
  refine L2.PE.weak (pe_meth (pv 2) m.L.cl m.mL m.GL (hr.mono (by decide)) m.bL .nil (passes_call (takes_of rfl rfl rfl rfl) (fun _ _ _ _ e => e)) (pa_cons (pe_tup (pa_cons pe_str pa_nil)) pa_nil)) fun σ H Q h => ?_
  obtain ⟨s, e2, sa, ⟨oL, oS, oW, oP⟩, tk, k⟩ := h
  obtain ⟨⟨dx, tp, er, ep⟩, el, es, ew, n1, n2, n3⟩ := id sa
  refine ⟨_, e2, s.r, dx, _, rfl, er, look_no (by decide +kernel), by show 1 ≤ sizeLine; decide, fun t ht => ?_⟩
  have w1 : Go T H (upd H t (.tup [.str ""])) := go_upd tk ht
  exact ⟨s, t, [""], rfl, sa.go w1, upd_same, w1.2, fun _ H' g => k H' _ (w1.trans g) (.inr rfl), fun z => absurd z (by decide +kernel)⟩
theorem lb3 (m : Ms P w K mg base T C CP CG CS M) (hr : Room 24 (A.deeper (LamX.lamEnv (XP P w K mg base fp cp Ao oo so Ho Eo) (lamSc 3) s.heap.objs.size f c'))) : PE (LamX.lamCx (XP P w K mg base fp cp Ao oo so Ho Eo) A outer s H E (lamSc 3) f c') (lamB 3) (tBad C T CP CG E) := by
  refine L2.PE.weak (pe_meth (pv 2) m.L.cl m.mL m.GL (hr.mono (by decide)) m.bL .nil (passes_call (takes_of rfl rfl rfl rfl) (fun _ _ _ _ e => e)) (pa_cons (pe_tup (pa_cons pe_str pa_nil)) pa_nil)) fun σ H Q h => ?_
  obtain ⟨s, e2, sa, ⟨oL, oS, oW, oP⟩, tk, k⟩ := h
  obtain ⟨⟨dx, tp, er, ep⟩, el, es, ew, n1, n2, n3⟩ := id sa
  refine ⟨_, e2, s.r, dx, _, rfl, er, look_no (by decide +kernel), by show 1 ≤ sizeLine; decide, fun t ht => ?_⟩
  have w1 : Go T H (upd H t (.tup [.str "!"])) := go_upd tk ht
  exact ⟨s, t, ["!"], rfl, sa.go w1, upd_same, w1.2, fun _ H' g => k H' _ (w1.trans g) (.inr rfl), fun z => absurd z (by decide +kernel)⟩
theorem lb4 (m : Ms P w K mg base T C CP CG CS M) (hr : Room 24 (A.deeper (LamX.lamEnv (XP P w K mg base fp cp Ao oo so Ho Eo) (lamSc 4) s.heap.objs.size f c'))) : PE (LamX.lamCx (XP P w K mg base fp cp Ao oo so Ho Eo) A outer s H E (lamSc 4) f c') (lamB 4) (tBad C T CP CG E) := by
  refine L2.PE.weak (pe_meth (pv 2) m.L.cl m.mW m.GW (hr.mono (by decide)) m.bW .nil (passes_call (takes_of rfl rfl rfl rfl) (fun _ _ _ _ e => e)) (pa_cons pe_str (pa_cons pe_str pa_nil))) fun σ H Q h => ?_
  obtain ⟨s, e2, sa, ⟨oL, oS, oW, oP⟩, tk, k⟩ := h
  obtain ⟨⟨dx, tp, er, ep⟩, el, es, ew, n1, n2, n3⟩ := id sa
  refine ⟨_, e2, s.r, dx, _, rfl, er, look_no (by decide +kernel), s, "a/b", "x", rfl, sa, ?_, tk, fun _ H' g => k H' _ g (.inl rfl), fun z => ?_⟩
  · rw [oW]; exact ⟨by decide +kernel, by decide +kernel⟩
  · rw [oW] at z; exact absurd z (by decide +kernel)
theorem lb5 (m : Ms P w K mg base T C CP CG CS M) (hr : Room 24 (A.deeper (LamX.lamEnv (XP P w K mg base fp cp Ao oo so Ho Eo) (lamSc 5) s.heap.objs.size f c'))) : PE (LamX.lamCx (XP P w K mg base fp cp Ao oo so Ho Eo) A outer s H E (lamSc 5) f c') (lamB 5) (tBad C T CP CG E) := by
  refine L2.PE.weak (pe_meth (pv 2) m.L.cl m.mW m.GW (hr.mono (by decide)) m.bW .nil (passes_call (takes_of rfl rfl rfl rfl) (fun _ _ _ _ e => e)) (pa_cons pe_str (pa_cons pe_str pa_nil))) fun σ H Q h => ?_
  obtain ⟨s, e2, sa, ⟨oL, oS, oW, oP⟩, tk, k⟩ := h
  obtain ⟨⟨dx, tp, er, ep⟩, el, es, ew, n1, n2, n3⟩ := id sa
  refine ⟨_, e2, s.r, dx, _, rfl, er, look_no (by decide +kernel), s, "a b", "x", rfl, sa, ?_, tk, fun _ H' g => k H' _ g (.inl rfl), fun z => ?_⟩
  · rw [oW]; exact ⟨by decide +kernel, by decide +kernel⟩
  · rw [oW] at z; exact absurd z (by decide +kernel)
theorem lb6 (m : Ms P w K mg base T C CP CG CS M) (hr : Room 24 (A.deeper (LamX.lamEnv (XP P w K mg base fp cp Ao oo so Ho Eo) (lamSc 6) s.heap.objs.size f c'))) : PE (LamX.lamCx (XP P w K mg base fp cp Ao oo so Ho Eo) A outer s H E (lamSc 6) f c') (lamB 6) (tBad C T CP CG E) := by
  refine L2.PE.weak (pe_meth (pv 2) m.L.cl m.mE m.GE (hr.mono (by decide)) m.bE .nil (passes_call (takes_of rfl rfl rfl rfl) (fun _ _ _ _ e => e)) (pa_cons pe_str pa_nil)) fun σ H Q h => ?_
  obtain ⟨s, e2, sa, ⟨oL, oS, oW, oP⟩, tk, k⟩ := h
  obtain ⟨⟨dx, tp, er, ep⟩, el, es, ew, n1, n2, n3⟩ := id sa
  refine ⟨_, e2, s.r, dx, _, rfl, er, look_no (by decide +kernel), s, "q", rfl, sa, tk, fun _ H' g => k H' _ g (.inr rfl), fun z => ?_⟩
  rw [oW] at z; exact absurd z (by decide +kernel)
theorem lb7 (m : Ms P w K mg base T C CP CG CS M) (hr : Room 24 (A.deeper (LamX.lamEnv (XP P w K mg base fp cp Ao oo so Ho Eo) (lamSc 7) s.heap.objs.size f c'))) : PE (LamX.lamCx (XP P w K mg base fp cp Ao oo so Ho Eo) A outer s H E (lamSc 7) f c') (lamB 7) (tBad C T CP CG E) := by
  refine L2.PE.weak (pe_meth (pv 2) m.L.cl m.mA m.GA (hr.mono (by decide)) m.bA .nil (passes_call (takes_of rfl rfl rfl rfl) (fun _ _ _ _ e => e)) (pa_cons pe_str pa_nil)) fun σ H Q h => ?_
  obtain ⟨s, e2, sa, ⟨oL, oS, oW, oP⟩, tk, k⟩ := h
  obtain ⟨⟨dx, tp, er, ep⟩, el, es, ew, n1, n2, n3⟩ := id sa
  refine ⟨_, e2, s.r, dx, _, rfl, er, look_no (by decide +kernel), s, "q", rfl, sa, ?_, lok_of (by decide +kernel), ?_, tk, fun _ H' g => k H' _ g (.inr rfl), fun S' z => ?_⟩
  · rw [oS]; exact ⟨by decide +kernel, by decide +kernel⟩
  · rw [oP]; exact ⟨by decide, fun _ z => nomatch z⟩
  · unfold addR at z; rw [oW, oS, oP, if_pos (by decide +kernel)] at z; cases z
theorem lb8 (m : Ms P w K mg base T C CP CG CS M) (hr : Room 24 (A.deeper (LamX.lamEnv (XP P w K mg base fp cp Ao oo so Ho Eo) (lamSc 8) s.heap.objs.size f c'))) : PE (LamX.lamCx (XP P w K mg base fp cp Ao oo so Ho Eo) A outer s H E (lamSc 8) f c') (lamB 8) (tBad C T CP CG E) := by
  refine L2.PE.weak (pe_meth (pv 2) m.L.cl m.mR m.GR (hr.mono (by decide)) m.bR .nil (passes_call (takes_of rfl rfl rfl rfl) (fun _ _ _ _ e => e)) (pa_cons pe_str pa_nil)) fun σ H Q h => ?_
  obtain ⟨s, e2, sa, ⟨oL, oS, oW, oP⟩, tk, k⟩ := h
  obtain ⟨⟨dx, tp, er, ep⟩, el, es, ew, n1, n2, n3⟩ := id sa
  refine ⟨_, e2, s.r, dx, _, rfl, er, look_no (by decide +kernel), s, "q", rfl, sa, ?_, by decide +kernel, tk, fun _ H' g => k H' _ g (.inr rfl), fun S' z => ?_⟩
  · rw [oS]; exact ⟨by decide +kernel, by decide +kernel⟩
  · unfold resetR at z; rw [oS, oL, if_pos (by decide +kernel)] at z; cases z
theorem lb9 (m : Ms P w K mg base T C CP CG CS M) (hr : Room 24 (A.deeper (LamX.lamEnv (XP P w K mg base fp cp Ao oo so Ho Eo) (lamSc 9) s.heap.objs.size f c'))) : PE (LamX.lamCx (XP P w K mg base fp cp Ao oo so Ho Eo) A outer s H E (lamSc 9) f c') (lamB 9) (tBad C T CP CG E) := by
  refine L2.PE.weak (pe_meth (pv 2) m.L.cl m.mY m.GY (hr.mono (by decide)) m.bY .nil (passes_call (takes_of rfl rfl rfl rfl) (fun _ _ _ _ e => e)) (pa_cons pe_str pa_nil)) fun σ H Q h => ?_
  obtain ⟨s, e2, sa, ⟨oL, oS, oW, oP⟩, tk, k⟩ := h
  obtain ⟨⟨dx, tp, er, ep⟩, el, es, ew, n1, n2, n3⟩ := id sa
  refine ⟨_, e2, s.r, dx, _, rfl, er, look_no (by decide +kernel), s, "q", rfl, sa, ?_, by decide +kernel, tk, fun _ H' g => k H' _ g (.inr rfl), fun z e => ?_⟩
  · rw [oW]; exact ⟨by decide +kernel, by decide +kernel⟩
  · rw [oS, show lk one1 "q" = none by decide +kernel] at e; cases e
theorem lb10 (m : Ms P w K mg base T C CP CG CS M) (hr : Room 24 (A.deeper (LamX.lamEnv (XP P w K mg base fp cp Ao oo so Ho Eo) (lamSc 10) s.heap.objs.size f c'))) : PE (LamX.lamCx (XP P w K mg base fp cp Ao oo so Ho Eo) A outer s H E (lamSc 10) f c') (lamB 10) (tBad C T CP CG E) := by
  refine L2.PE.weak (pe_meth (pv 2) m.L.cl m.mM m.GM (hr.mono (by decide)) m.bM .nil (passes_call (takes_of rfl rfl rfl rfl) (fun _ _ _ _ e => e)) (pa_cons pe_str (pa_cons pe_str pa_nil))) fun σ H Q h => ?_
  obtain ⟨s, e2, sa, ⟨oL, oS, oW, oP⟩, tk, k⟩ := h
  obtain ⟨⟨dx, tp, er, ep⟩, el, es, ew, n1, n2, n3⟩ := id sa
  have no : mvOk s "q" "r" = false := by unfold mvOk; rw [oS, oW]; decide +kernel
  exact ⟨_, e2, s.r, dx, _, rfl, er, look_no (by decide +kernel), s, "q", "r", rfl, sa, by rw [oW]; decide, by rw [oS]; decide, fun z e => absurd e (by rw [no]; decide), tk, fun _ H' g => k H' _ g (.inr rfl), fun z e => absurd e (by rw [no]; decide), fun z e => absurd e (by rw [no]; decide)⟩
theorem lb11 (m : Ms P w K mg base T C CP CG CS M) (hr : Room 24 (A.deeper (LamX.lamEnv (XP P w K mg base fp cp Ao oo so Ho Eo) (lamSc 11) s.heap.objs.size f c'))) : PE (LamX.lamCx (XP P w K mg base fp cp Ao oo so Ho Eo) A outer s H E (lamSc 11) f c') (lamB 11) (tBad C T CP CG E) := by
  refine L2.PE.weak (pe_meth (pv 2) m.L.cl m.mM m.GM (hr.mono (by decide)) m.bM .nil (passes_call (takes_of rfl rfl rfl rfl) (fun _ _ _ _ e => e)) (pa_cons pe_str (pa_cons pe_str pa_nil))) fun σ H Q h => ?_
  obtain ⟨s, e2, sa, ⟨oL, oS, oW, oP⟩, tk, k⟩ := h
  obtain ⟨⟨dx, tp, er, ep⟩, el, es, ew, n1, n2, n3⟩ := id sa
  have no : mvOk s "a" "a" = false := by unfold mvOk; rw [oS, oW]; decide +kernel
  exact ⟨_, e2, s.r, dx, _, rfl, er, look_no (by decide +kernel), s, "a", "a", rfl, sa, by rw [oW]; decide, by rw [oS]; decide, fun z e => absurd e (by rw [no]; decide), tk, fun _ H' g => k H' _ g (.inr rfl), fun z e => absurd e (by rw [no]; decide), fun z e => absurd e (by rw [no]; decide)⟩
theorem lb12 (m : Ms P w K mg base T C CP CG CS M) (hr : Room 24 (A.deeper (LamX.lamEnv (XP P w K mg base fp cp Ao oo so Ho Eo) (lamSc 12) s.heap.objs.size f c'))) : PE (LamX.lamCx (XP P w K mg base fp cp Ao oo so Ho Eo) A outer s H E (lamSc 12) f c') (lamB 12) (tBad C T CP CG E) := by
  refine L2.PE.weak (pe_meth (pv 2) m.L.cl m.mT m.GT (hr.mono (by decide)) m.bT .nil (passes_call (takes_of rfl rfl rfl rfl) (fun _ _ _ _ e => e)) (pa_cons (pe_disp (pps_cons pe_str pe_str pps_nil) (by rfl) (by rfl) (fun z => by cases z) (by decide)) pa_nil)) fun σ H Q h => ?_
  obtain ⟨s, e2, sa, ⟨oL, oS, oW, oP⟩, tk, k⟩ := h
  obtain ⟨⟨dx, tp, er, ep⟩, el, es, ew, n1, n2, n3⟩ := id sa
  refine ⟨_, e2, s.r, dx, _, rfl, er, look_no (by decide +kernel), fun q hq => ⟨upd_same, [((Sum.inr "" : Key), V.str "x")], rfl, by decide, ?_⟩⟩
  rw [upd_upd, show mergeK [] [((Sum.inr "" : Key), V.str "x")] = fk [("", "x")] by decide +kernel]
  have w1 : Go T H (upd H q (.dK (fk [("", "x")]))) := go_upd tk hq
  have ok1 : fok one1 := ⟨by decide, fun q hq => by rw [List.mem_singleton.mp hq]; exact ⟨lok_of (by decide +kernel), by unfold okS; decide +kernel, by unfold okS; decide +kernel⟩, by decide⟩
  exact ⟨s, q, [("", "x")], rfl, sa.go w1, ⟨by rw [oL]; exact ok1, by rw [oS]; exact ok1, by rw [oW]; exact ok1, by rw [oP]; exact ⟨by decide, fun _ z => nomatch z⟩⟩, upd_same,
    ⟨by decide, fun q hq => by rw [List.mem_singleton.mp hq]; exact ⟨lok_of (by decide +kernel), by unfold okS; decide +kernel, by unfold okS; decide +kernel⟩, by decide⟩, sa.off (fresh_none hq), w1.2,
    fun _ H' g => k H' _ (w1.trans g) (.inr rfl), fun _ _ H' g => k H' _ (GoE.news w1 g fun b hb => by rw [List.mem_singleton.mp hb]; exact fresh_none hq) (.inl rfl), fun _ z => absurd z (by decide +kernel)⟩
end
end Sg
end Text_S26
section Text_S27
set_option Elab.async false
set_option linter.all false
set_option maxRecDepth 100000
set_option maxHeartbeats 4000000
namespace Sg
open PySem PySem.Spec PyProof.Rows L2 Gx GxR LamY LamZ
/-- the table of lambdas grows -/
theorem but_p {T : Tb} {S : List Addr} {H H1 : Hp} (t : TOk T H) (b : But T.p H H1) (s : LamX.TabS H1 T.p lamP) : GoE T S H H1 := by
  have z : ∀ a, a ∈ [T.cf, T.f, T.lo, T.le, T.iw, T.st, T.w, T.m] → a ≠ T.p := fun a m e => t.np (e ▸ m)
  have one : ∀ a, a ≠ T.p → TabG H a → TabG H1 a := fun a n ⟨ps, e, q⟩ => ⟨ps, b _ _ n e, q⟩
  have nt : ∀ c o, H c = some o → (∀ ps, o ≠ .tbl ps) → c ≠ T.p := fun c o e n q => by
    obtain ⟨ps, h, _⟩ := t.p
    rw [q, h] at e
    exact n ps (Option.some.inj e).symm
  have ww : TabN H1 T.w [T.p, T.m] := by
    obtain ⟨ps, h1, h2, h3⟩ := id t.w
    refine ⟨ps, b _ _ (z _ (by simp)) h1, h2, fun pos cv hc => ?_⟩
    obtain ⟨c0, P0, e1, e2, e3, e4, e5⟩ := h3 pos cv hc
    exact ⟨c0, P0, e1, b _ _ (nt _ _ e2 codeG_ne) e2, one _ (fun q => e5 (by simp [q])) e3, e4, e5⟩
  have oo : LamX.TabS H1 T.m lamM := by
    obtain ⟨ps, h1, h2, h3⟩ := id t.m
    refine ⟨ps, b _ _ (z _ (by simp)) h1, h2, fun pos cv hc => ?_⟩
    obtain ⟨c0, e1, e2⟩ := h3 pos cv hc
    exact ⟨c0, e1, b _ _ (nt _ _ e2 LamX.codeO_ne) e2⟩
  exact ⟨fun c o e n _ => b c o (nt c o e n) e, one _ (z _ (by simp)) t.cf, one _ (z _ (by simp)) t.f, one _ (z _ (by simp)) t.lo, one _ (z _ (by simp)) t.le, one _ (z _ (by simp)) t.iw, one _ (z _ (by simp)) t.st, ww, s, oo, t.nw, t.np, t.nm⟩
/-- the table of lambdas grows -/
theorem but_m {T : Tb} {S : List Addr} {H H1 : Hp} (t : TOk T H) (b : But T.m H H1) (s : LamX.TabS H1 T.m lamM) : GoE T S H H1 := by
  have z : ∀ a, a ∈ [T.cf, T.f, T.lo, T.le, T.iw, T.st, T.w, T.p] → a ≠ T.m := fun a m e => t.nm (e ▸ m)
  have one : ∀ a, a ≠ T.m → TabG H a → TabG H1 a := fun a n ⟨ps, e, q⟩ => ⟨ps, b _ _ n e, q⟩
  have nt : ∀ c o, H c = some o → (∀ ps, o ≠ .tbl ps) → c ≠ T.m := fun c o e n q => by
    obtain ⟨ps, h, _⟩ := t.m
    rw [q, h] at e
    exact n ps (Option.some.inj e).symm
  have ww : TabN H1 T.w [T.p, T.m] := by
    obtain ⟨ps, h1, h2, h3⟩ := id t.w
    refine ⟨ps, b _ _ (z _ (by simp)) h1, h2, fun pos cv hc => ?_⟩
    obtain ⟨c0, P0, e1, e2, e3, e4, e5⟩ := h3 pos cv hc
    exact ⟨c0, P0, e1, b _ _ (nt _ _ e2 codeG_ne) e2, one _ (fun q => e5 (by simp [q])) e3, e4, e5⟩
  have oo : LamX.TabS H1 T.p lamP := by
    obtain ⟨ps, h1, h2, h3⟩ := id t.p
    refine ⟨ps, b _ _ (z _ (by simp)) h1, h2, fun pos cv hc => ?_⟩
    obtain ⟨c0, e1, e2⟩ := h3 pos cv hc
    exact ⟨c0, e1, b _ _ (nt _ _ e2 LamX.codeO_ne) e2⟩
  exact ⟨fun c o e n _ => b c o (nt c o e n) e, one _ (z _ (by simp)) t.cf, one _ (z _ (by simp)) t.f, one _ (z _ (by simp)) t.lo, one _ (z _ (by simp)) t.le, one _ (z _ (by simp)) t.iw, one _ (z _ (by simp)) t.st, ww, oo, s, t.nw, t.np, t.nm⟩
theorem lamC_go {T : Tb} {S : List Addr} {H H1 : Hp} {f : Addr} {q : Str} {params : Arguments} {body : Expr} {scope : Scope} {cl : List (Str × Addr)} (l : LamC H f q params body scope cl) (g : Go T H H1) : LamC H1 f q params body scope cl := l.ext fun b o e n => g.1 b o e n (.inl (by simp))
/-- the law's helper that calls a lambda -/
structure Tol (K : PySem.W.Frag) (mg : Str → Option Value) (CS fT : Addr) (dT : FuncData) : Prop where
  F : Fun K "_law_told" "_law_told" sTold fT dT
  mT : mg "_law_told" = some (.ref fT)
  bT : Binds K dT ["what"] []
theorem scTo : FnScope ["what"] ["what"] (defScope sTold) := ⟨rfl, rfl, rfl, by decide +kernel, rfl, by decide +kernel, by decide +kernel⟩
/-- lambda number j stands at f -/
def LJ (X : Cx) (H : Hp) (f : Addr) (j : Nat) : Prop := LamC H f (X.env.qual ++ "<lambda>") (lamA j) (lamB j) (lamSc j) (cloFrom X.env.cells (lamSc j).names [])
def tLamJ (X : Cx) (T : Tb) (j : Nat) : TE := fun _ H Q => TOk T H ∧ ∀ H1 f, Go T H H1 → LJ X H1 f j → Q (.ref f) H1
theorem pe_lamJ {X : Cx} {T : Tb} {c : Addr} {params : Arguments} {body : Expr} {scope : Scope} {pos : Pos} (j : Nat) (TB : LamX.TabB X.base X.mg c T.p) (hcode : X.env.code = .ref c) (hdef : defaultsOf params X.env = ([], []))
    (L : LamX.LamS X.env.scope scope) (hq : X.env.qual ++ "<lambda>" = lamP) (ep : params = lamA j) (eb : body = lamB j) (es : scope = lamSc j) : PE X (.Lambda params body scope pos) (tLamJ X T j) := by
  refine PE.weak (pe_lambdaC TB hcode hdef L) fun σ H Q h => ?_
  refine ⟨by rw [hq]; exact h.1.p, fun H1 f bt ts la => h.2 H1 f (but_p h.1 bt (by rw [← hq]; exact ts)) ?_⟩
  subst ep eb es
  exact la
section
variable {P : Program} {w : World} {K : PySem.W.Frag} {mg : Str → Option Value} {base : Heap} {T : Tb} {C CP CG CS : Addr} {M : MD}
variable {fp cp fT : Addr} {Ao : Around} {oo : List Env} {so s : Shared} {Ho H : Hp} {Eo : XK} {dT : FuncData}
def LBd (P : Program) (w : World) (K : PySem.W.Frag) (mg : Str → Option Value) (base : Heap) (T : Tb) (C CP CG : Addr) (fp cp : Addr) (Ao : Around) (oo : List Env) (so : Shared) (Ho : Hp) (Eo : XK) (j : Nat) : Prop :=
  ∀ (A : Around) (outer : List Env) (s : Shared) (H : Hp) (E : XK) (f c' : Addr), Room 24 (A.deeper (LamX.lamEnv (XP P w K mg base fp cp Ao oo so Ho Eo) (lamSc j) s.heap.objs.size f c')) → PE (LamX.lamCx (XP P w K mg base fp cp Ao oo so Ho Eo) A outer s H E (lamSc j) f c') (lamB j) (tBad C T CP CG E)
theorem lbs (m : Ms P w K mg base T C CP CG CS M) : ∀ j, j < 13 → LBd P w K mg base T C CP CG fp cp Ao oo so Ho Eo j :=
  alls (p := LBd P w K mg base T C CP CG fp cp Ao oo so Ho Eo) (fun _ _ _ _ _ _ _ hr => lb0 m hr) (fun _ _ _ _ _ _ _ hr => lb1 m hr) (fun _ _ _ _ _ _ _ hr => lb2 m hr) (fun _ _ _ _ _ _ _ hr => lb3 m hr) (fun _ _ _ _ _ _ _ hr => lb4 m hr) (fun _ _ _ _ _ _ _ hr => lb5 m hr) (fun _ _ _ _ _ _ _ hr => lb6 m hr) (fun _ _ _ _ _ _ _ hr => lb7 m hr) (fun _ _ _ _ _ _ _ hr => lb8 m hr) (fun _ _ _ _ _ _ _ hr => lb9 m hr) (fun _ _ _ _ _ _ _ hr => lb10 m hr) (fun _ _ _ _ _ _ _ hr => lb11 m hr) (fun _ _ _ _ _ _ _ hr => lb12 m hr)
/-- what the lambdas find -/
def BadAt (C : Addr) (T : Tb) (σ : L2.St) (H : Hp) : Prop := ∃ s : Sta, σ[2]? = some (some (.ref s.r)) ∧ SAt C H s ∧ isOne s ∧ TOk T H
def tToldJ (X : Cx) (C : Addr) (T : Tb) (σ0 : L2.St) : TE := fun σ H Q => ∃ j f, j < 13 ∧ σ[1]? = some (some (.ref f)) ∧ LJ X H f j ∧ BadAt C T σ0 H ∧ ∀ H', Go T H H' → Q (.str "StoreError") H'
theorem toldJ (m : Ms P w K mg base T C CP CG CS M) (t : Tol K mg CS fT dT) {scope : Scope} {ce : Env} {fpp : List Addr} {pins : List (Addr × Obj)} {σ0 : L2.St} {p1 p2 pos : Pos} (hr : Room 26 (XP P w K mg base fp cp Ao oo so Ho Eo).A) (I : Inv (XP P w K mg base fp cp Ao oo so Ho Eo) pins σ0 H s)
    (ff : ∀ b ∈ fpp, FpOk (XP P w K mg base fp cp Ao oo so Ho Eo) pins H b ∧ b < s.heap.objs.size) (hg : ce.scope.names.lookup ("_law_told" : Str) = some NameKind.globalImplicit) (hf : Vis ce.scope "f") :
    PE ((XP P w K mg base fp cp Ao oo so Ho Eo).blk s H scope ce fpp) (.Call (.Name "_law_told" p1) [.Name "f" p2] [] pos) (tToldJ (XP P w K mg base fp cp Ao oo so Ho Eo) C T σ0) := by
  refine ⟨fun ps s1 σ1 H1 Q I1 h => ?_⟩
  obtain ⟨j, f, hj, e3, ⟨pm, c', ctv, hl, hc⟩, ⟨s, e2, sa, o1, tk⟩, k⟩ := h
  obtain ⟨oc, od, kV, doc, pm2, an, cdv, ct, osl, rfl, lk, hcd⟩ := t.F.ex
  refine (pe_hand (X := XP P w K mg base fp cp Ao oo so Ho Eo) (k := 24) (params := lamA j) (body := lamB j) (scope := lamSc j) (t := fun E => tBad C T CP CG E) (fun _ => σ0) hg t.mT t.F.kp lk hcd t.bT scTo rfl (Or.inl rfl)
    (LamX.told_gives (CS := CS) (ret := "StoreError") (e := "StoreError") rfl m.X.gS (by decide) (fun _ => rfl)) (pe_var (i := 1) rfl hf) (fun J => ⟨_, blk_back I ff J⟩) hr (slams j hj) (fun q cl pm cv ctv => bindLs j hj q cl pm cv ctv) (lbs m j hj)).run ps s1 σ1 H1 Q I1 ?_
  exact ⟨_, e3, f, pm, c', ctv, rfl, hl, hc, hl, s, e2, sa, o1, tk, fun H' c g hc2 => ⟨true, by
    rcases hc2 with rfl | rfl
    · exact m.X.caughtE m.X.P
    · exact m.X.caughtE m.X.G, fun _ => k H' g, fun q => nomatch q⟩⟩
end
end Sg
end Text_S27
section Text_S28
set_option Elab.async false
set_option linter.all false
set_option maxRecDepth 100000
set_option maxHeartbeats 4000000
namespace Sg
open PySem PySem.Spec PyProof.Rows L2 Gx GxR LamY LamZ
/-! == of two tables, whatever comes out -/
/-- as dicts: the same paths with the same texts -/
def eqF (A B : Files) : Bool := decide (A.length = B.length) && A.all fun q => decide (lk B q.1 = some q.2)
theorem hits_str {A : Around} {s : Shared} {B : Files} {vb : List (Key × Value)} (rb : KV (fk B) vb) : ∀ {F : Files} {va : List (Key × Value)}, KV (fk F) va → PySem.W.KeqHits A s vb va (F.all fun q => decide (lk B q.1 = some q.2)) := by
  intro F
  induction F with
  | nil =>
    intro va ra
    cases ra
    exact .nil
  | cons q F ih =>
    intro va ra
    cases ra with
    | @cons p r ps qs h t =>
      obtain ⟨h1, h2⟩ := h
      obtain ⟨k, v⟩ := r
      have h1' : (Sum.inr q.1 : Key) = k := h1
      subst h1'
      have rr := rb.val (Sum.inr q.1 : Key)
      rw [lk_fk] at rr
      rw [List.all_cons]
      cases e : lk B q.1 with
      | none =>
        rw [e] at rr
        have hn := rr.none_of
        rw [decide_eq_false (by intro z; cases z), Bool.false_and]
        exact .miss hn
      | some x =>
        rw [e] at rr
        obtain ⟨y, hy, t', rfl⟩ := rr.some_of
        obtain ⟨t2, rfl⟩ := (show ∃ t, v = Value.str q.2 t from h2)
        have q1 := SeqAt.EqAt.str_str (A := A) (s := s) q.2 t2 x t'
        have e2 : (decide (some x = some q.2)) = (q.2 == x) := by
          rw [Bool.eq_iff_iff, decide_eq_true_iff, beq_iff_eq]
          exact ⟨fun z => (Option.some.inj z).symm, fun z => by rw [z]⟩
        rw [e2]
        exact .hit hy q1 (ih t)
def rEqF : R2 := fun x y H Q => ∃ a b A B, x = .ref a ∧ y = .ref b ∧ H a = some (.dK (fk A)) ∧ H b = some (.dK (fk B)) ∧ Q (.bl (eqF A B)) H
def rNeF : R2 := fun x y H Q => ∃ a b A B, x = .ref a ∧ y = .ref b ∧ H a = some (.dK (fk A)) ∧ H b = some (.dK (fk B)) ∧ Q (.bl (!eqF A B)) H
section
variable {X : Cx}
theorem op_eqF (hu : X.A.units < cLine) : OpR X (compareOp .Eq) rEqF := by
  intro pins s σ H x y v u Q I rx ry h
  obtain ⟨a, b, A, B, rfl, rfl, ea, eb, q⟩ := h
  obtain rfl : v = Value.ref a := rx
  obtain rfl : u = Value.ref b := ry
  obtain ⟨_, ya, va, ra, da⟩ := (show ObjOk X.prog X.w H s.heap a (.dK (fk A)) from I.hok a _ ea)
  obtain ⟨_, yb, vb, rb, db⟩ := (show ObjOk X.prog X.w H s.heap b (.dK (fk B)) from I.hok b _ eb)
  have hl : (va.length == vb.length) = decide (A.length = B.length) := by rw [← ra.length, ← rb.length, fkn, fkn]; rfl
  exact PySem.W.keq_eq (knd := mixKind X.prog X.w) (r := A.all fun q => decide (lk B q.1 = some q.2)) ya yb da db hu (fun _ => hits_str rb ra) (fin_bl I q (by rw [hl]; rfl))
theorem op_neF (hu : X.A.units < cLine) : OpR X (compareOp .NotEq) rNeF := by
  intro pins s σ H x y v u Q I rx ry h
  obtain ⟨a, b, A, B, rfl, rfl, ea, eb, q⟩ := h
  obtain rfl : v = Value.ref a := rx
  obtain rfl : u = Value.ref b := ry
  obtain ⟨_, ya, va, ra, da⟩ := (show ObjOk X.prog X.w H s.heap a (.dK (fk A)) from I.hok a _ ea)
  obtain ⟨_, yb, vb, rb, db⟩ := (show ObjOk X.prog X.w H s.heap b (.dK (fk B)) from I.hok b _ eb)
  have hl : (va.length == vb.length) = decide (A.length = B.length) := by rw [← ra.length, ← rb.length, fkn, fkn]; rfl
  exact PySem.W.keq_ne (knd := mixKind X.prog X.w) (r := A.all fun q => decide (lk B q.1 = some q.2)) ya yb da db hu (fun _ => hits_str rb ra) (fin_bl I q (by rw [hl]; rfl))
end
theorem eqF_self {A : Files} (h : (keysF A).Nodup) : eqF A A = true := by
  unfold eqF
  rw [decide_eq_true rfl, Bool.true_and, List.all_eq_true]
  intro q hq
  rw [decide_eq_true_iff]
  induction A with
  | nil => cases hq
  | cons r A ih =>
    rw [lk_cons]
    have nd : r.1 ∉ keysF A ∧ (keysF A).Nodup := List.nodup_cons.mp h
    rcases List.mem_cons.mp hq with e | hq
    · rw [e, if_pos rfl]
    · rw [if_neg fun z => nd.1 (List.mem_map.mpr ⟨q, hq, z.symm⟩)]
      exact ih nd.2 hq
theorem nd_len : ∀ {A B : List Str}, A.Nodup → (∀ x ∈ A, x ∈ B) → A.length ≤ B.length
  | [], _, _, _ => Nat.zero_le _
  | a :: A, B, nd, h => by
    obtain ⟨n1, n2⟩ := List.nodup_cons.mp nd
    have ha := h a List.mem_cons_self
    have := nd_len (A := A) (B := B.erase a) n2 fun x hx => (List.mem_erase_of_ne fun z => n1 (by rw [← z]; exact hx)).mpr (h x (List.mem_cons_of_mem _ hx))
    rw [List.length_erase_of_mem ha] at this
    have hp := List.length_pos_of_mem ha
    rw [List.length_cons]
    omega
theorem nd_sub : ∀ {A B : List Str}, A.Nodup → (∀ x ∈ A, x ∈ B) → B.length ≤ A.length → ∀ x ∈ B, x ∈ A
  | [], B, _, _, hl, x, hx => by
    have := List.length_pos_of_mem hx
    rw [List.length_nil] at hl
    omega
  | a :: A, B, nd, h, hl, x, hx => by
    obtain ⟨n1, n2⟩ := List.nodup_cons.mp nd
    have ha := h a List.mem_cons_self
    by_cases z : x = a
    · rw [z]; exact List.mem_cons_self
    · refine List.mem_cons_of_mem _ (nd_sub (A := A) (B := B.erase a) n2 (fun y hy => (List.mem_erase_of_ne fun z => n1 (by rw [← z]; exact hy)).mpr (h y (List.mem_cons_of_mem _ hy))) ?_ x ((List.mem_erase_of_ne z).mpr hx))
      rw [List.length_erase_of_mem ha]
      rw [List.length_cons] at hl
      omega
theorem lk_at {A : Files} (nd : (keysF A).Nodup) {q : Str × Str} (hq : q ∈ A) : lk A q.1 = some q.2 := by
  have := eqF_self nd
  unfold eqF at this
  rw [Bool.and_eq_true, List.all_eq_true] at this
  exact of_decide_eq_true (this.2 q hq)
theorem keysF_len (A : Files) : (keysF A).length = A.length := List.length_map _
theorem mem_paths {A B : Files} {p : Str} (h : p ∈ keysF A ∨ p ∈ keysF B) : p ∈ paths A B := (mem_so _ _).mpr (List.mem_append.mpr h)
theorem chg_nil {A B : Files} : chg A B = [] ↔ ∀ p ∈ paths A B, lk A p = lk B p := by
  rw [← chg_law, List.map_eq_nil_iff, List.filter_eq_nil_iff]
  unfold diffB
  simp
/-- no row tells that tables are the same -/
theorem eqF_chg {A B : Files} (hA : (keysF A).Nodup) (hB : (keysF B).Nodup) : eqF A B = decide (chg A B = []) := by
  rw [Bool.eq_iff_iff, decide_eq_true_iff, chg_nil]
  unfold eqF
  rw [Bool.and_eq_true, decide_eq_true_iff, List.all_eq_true]
  constructor
  · intro ⟨hl, h⟩ p hp
    have sub : ∀ x ∈ keysF A, x ∈ keysF B := fun x hx => by
      obtain ⟨q, hq, rfl⟩ := List.mem_map.mp hx
      exact (lk_iff B q.1).mp (by rw [of_decide_eq_true (h q hq)]; rfl)
    have sub2 := nd_sub hA sub (by rw [keysF_len, keysF_len]; omega)
    have one : p ∈ keysF A := by
      rcases List.mem_append.mp ((mem_so _ _).mp hp) with z | z
      · exact z
      · exact sub2 p z
    obtain ⟨q, hq, rfl⟩ := List.mem_map.mp one
    rw [lk_at hA hq, of_decide_eq_true (h q hq)]
  · intro h
    have s1 : ∀ x ∈ keysF A, x ∈ keysF B := fun x hx => by
      have e := h x (mem_paths (.inl hx))
      exact (lk_iff B x).mp (by rw [← e]; exact (lk_iff A x).mpr hx)
    have s2 : ∀ x ∈ keysF B, x ∈ keysF A := fun x hx => by
      have e := h x (mem_paths (.inr hx))
      exact (lk_iff A x).mp (by rw [e]; exact (lk_iff B x).mpr hx)
    have l1 := nd_len hA s1
    have l2 := nd_len hB s2
    rw [keysF_len, keysF_len] at l1 l2
    refine ⟨by omega, fun q hq => decide_eq_true ?_⟩
    rw [← h q.1 (mem_paths (.inl (List.mem_map.mpr ⟨q, hq, rfl⟩))), lk_at hA hq]
theorem chg_self (A : Files) : chg A A = [] := chg_nil.mpr fun _ _ => rfl
end Sg
end Text_S28
section Text_S29
set_option Elab.async false
set_option linter.all false
set_option maxRecDepth 100000
set_option maxHeartbeats 4000000
namespace Sg
open PySem PySem.Spec PyProof.Rows L2 Gx GxR LamY LamZ
/-! _law_plain -/
def A1 : Files := [("a", "z"), ("b", "y")]
def A0 : Files := [("a", "x"), ("b", "y")]
def A2 : Files := [("b", "y"), ("a/c", "w")]
def B1 : Files := [("b", "y")]
theorem srt_is {xs ys : List Str} (pm : ys.Perm xs) (h : sortedS ys = true) : srt xs = ys := (srt_eq pm h).symm
theorem paths01 : paths one1 A1 = (["a", "b"] : List Str) := srt_is (by decide +kernel) (by decide +kernel)
theorem chg01 : chg one1 A1 = ([("other", "a"), ("come", "b")] : List (Str × Str)) := by
  unfold chg
  rw [paths01]
  decide +kernel
theorem srtA1 : srt (keysF A1) = (["a", "b"] : List Str) := srt_is (by decide +kernel) (by decide +kernel)
theorem srt1 : srt (keysF one1) = (["a"] : List Str) := srt_is (by decide +kernel) (by decide +kernel)
theorem fok_by {A : Files} (h1 : A.length ≤ 10) (h2 : ∀ q ∈ A, lokB q.1 = true ∧ PyData.strOk q.1 = true ∧ PyData.strOk q.2 = true) (h3 : (keysF A).Nodup) : fok A := ⟨h1, fun q hq => ⟨lok_of (h2 q hq).1, (h2 q hq).2.1, (h2 q hq).2.2⟩, h3⟩
theorem fok1 : fok one1 := fok_by (by decide) (by decide +kernel) (by decide)
theorem fokA1 : fok A1 := fok_by (by decide) (by decide +kernel) (by decide)
theorem fokA2 : fok A2 := fok_by (by decide) (by decide +kernel) (by decide)
theorem fokB1 : fok B1 := fok_by (by decide) (by decide +kernel) (by decide)
theorem patsN : patsOk [] := ⟨by decide, fun _ z => nomatch z⟩
def spPlain (T : Tb) : Sp := fun vs H Q _ => vs = [] ∧ TOk T H ∧ ∀ H', Go T H H' → Q (.bl true) H'
theorem plainQ : (("_law_plain" : Str) ++ ".<locals>." ++ "<lambda>" : Str) = lamP := by decide +kernel
/-- all that is the stage's is new since H -/
def New (T : Tb) (H G : Hp) (s : Sta) : Prop := Go T H G ∧ ∀ b ∈ s.ad, Fresh H b
theorem New.go {T : Tb} {H G G' : Hp} {s : Sta} (n : New T H G s) (g : Go T G G') : New T H G' s := ⟨n.1.trans g, n.2⟩
theorem New.step {T : Tb} {H G G' : Hp} {s s' : Sta} (n : New T H G s) (g : Stp T G s G' s') : New T H G' s' := by
  have off : ∀ b o, H b = some o → (∀ ps, o ≠ .tbl ps) → G' b = some o ∧ b ∉ s'.ad := fun b o e nt => by
    refine g.1 b o (n.1.1 b o e nt (.inl (by simp))) nt fun hb => ?_
    obtain ⟨ps, z⟩ := n.2 b hb o e
    exact nt ps z
  refine ⟨⟨fun b o e nt _ => (off b o e nt).1, g.2.2⟩, fun b hb u e => ?_⟩
  refine Classical.byContradiction fun z => ?_
  exact (off b u e fun ps q => z ⟨ps, q⟩).2 hb
theorem PairAt.dp {K : PySem.W.Frag} {G : Hp} {xs : List V} {rs : List (Str × Str)} (h : All2 (PairAt G) xs rs) : DpAll K G xs (rs.map pairD) := dp_pairs h
theorem mergeA {k v : Str} : mergeK [] [((Sum.inr k : Key), V.str v)] = fk [(k, v)] := rfl
/-- the lambdas that restore, reset -/
def lamR : Expr := match (defBody sPlain).getD 11 noS with
  | .If (.UnaryOp _ (.BoolOp _ (.Compare (.Call _ [e] _ _) _ _ _ :: _) _) _) _ _ _ => e
  | _ => noE
def lamQ : Expr := match (defBody sPlain).getD 12 noS with
  | .Return (some (.BoolOp _ (_ :: .Compare (.Call _ [e] _ _) _ _ _ :: _) _)) _ => e
  | _ => noE
def lArg : Expr → Arguments
  | .Lambda a _ _ _ => a
  | _ => ⟨[], [], none, [], [], none, []⟩
def lBody : Expr → Expr
  | .Lambda _ b _ _ => b
  | e => e
def lScope : Expr → Scope
  | .Lambda _ _ s _ => s
  | _ => defScope sPlain
theorem bindNo {e : Expr} (h : lArg e = ⟨[], [], none, [], [], none, []⟩) (q : Str) (cl : List (Str × Addr)) (pm cv ctv : Value) : bindArgs (PySem.W.kla_fn "<lambda>" q (lArg e) (lBody e) (lScope e) cl pm cv ctv) ⟨[], []⟩ = pure [] := by
  rw [h]
  exact bind0 _ _ _ _ _ _ _
theorem lamR_S : LamX.LamS (defScope sPlain) (lScope lamR) := LamX.lamS_by (by decide +kernel)
theorem lamQ_S : LamX.LamS (defScope sPlain) (lScope lamQ) := LamX.lamS_by (by decide +kernel)
section
variable {P : Program} {w : World} {K : PySem.W.Frag} {mg : Str → Option Value} {base : Heap} {T : Tb} {C CP CG CS : Addr} {M : MD}
/-- restore("a") of a stage where it is not staged -/
def tResto (C : Addr) (T : Tb) (CG : Addr) (E : XK) : TE := fun σ H _ => ∃ s : Sta, σ[2]? = some (some (.ref s.r)) ∧ SAt C H s ∧ fsm s.W ∧ lk s.S "a" = none ∧ TOk T H ∧ ∀ H', Go T H H' → E (.ref CG) none H'
theorem lbR {fp cp f c' : Addr} {Ao A : Around} {oo outer : List Env} {so s : Shared} {Ho H : Hp} {Eo E : XK} (m : Ms P w K mg base T C CP CG CS M) (hr : Room 24 (A.deeper (LamX.lamEnv (XP P w K mg base fp cp Ao oo so Ho Eo) (lScope lamR) s.heap.objs.size f c'))) :
    PE (LamX.lamCx (XP P w K mg base fp cp Ao oo so Ho Eo) A outer s H E (lScope lamR) f c') (lBody lamR) (tResto C T CG E) := by
  refine L2.PE.weak (pe_meth (pv 2) m.L.cl m.mY m.GY (hr.mono (by decide)) m.bY .nil (passes_call (takes_of rfl rfl rfl rfl) (fun _ _ _ _ e => e)) (pa_cons pe_str pa_nil)) fun σ H Q h => ?_
  obtain ⟨s, e2, sa, sm, no, tk, k⟩ := h
  obtain ⟨⟨dx, tp, er, ep⟩, _⟩ := id sa
  refine ⟨_, e2, s.r, dx, _, rfl, er, look_no (by decide +kernel), s, "a", rfl, sa, sm, by decide +kernel, tk, fun _ H' g => k H' g, fun z e => ?_⟩
  rw [no] at e
  cases e
/-- reset("a") where it would be a folder -/
def tRese (C : Addr) (T : Tb) (CG : Addr) (E : XK) : TE := fun σ H _ => ∃ s : Sta, σ[2]? = some (some (.ref s.r)) ∧ SAt C H s ∧ fsm s.S ∧ resetR s "a" = none ∧ TOk T H ∧ ∀ H', Go T H H' → E (.ref CG) none H'
theorem lbQ {fp cp f c' : Addr} {Ao A : Around} {oo outer : List Env} {so s : Shared} {Ho H : Hp} {Eo E : XK} (m : Ms P w K mg base T C CP CG CS M) (hr : Room 24 (A.deeper (LamX.lamEnv (XP P w K mg base fp cp Ao oo so Ho Eo) (lScope lamQ) s.heap.objs.size f c'))) :
    PE (LamX.lamCx (XP P w K mg base fp cp Ao oo so Ho Eo) A outer s H E (lScope lamQ) f c') (lBody lamQ) (tRese C T CG E) := by
  refine L2.PE.weak (pe_meth (pv 2) m.L.cl m.mR m.GR (hr.mono (by decide)) m.bR .nil (passes_call (takes_of rfl rfl rfl rfl) (fun _ _ _ _ e => e)) (pa_cons pe_str pa_nil)) fun σ H Q h => ?_
  obtain ⟨s, e2, sa, sm, no, tk, k⟩ := h
  obtain ⟨⟨dx, tp, er, ep⟩, _⟩ := id sa
  refine ⟨_, e2, s.r, dx, _, rfl, er, look_no (by decide +kernel), s, "a", rfl, sa, sm, by decide +kernel, tk, fun _ H' g => k H' g, fun S' e => ?_⟩
  rw [no] at e
  cases e
theorem scPl : FnScope NP [] (defScope sPlain) := ⟨rfl, rfl, rfl, by decide +kernel, rfl, by decide +kernel, by decide +kernel⟩
theorem ok_plain {f cp fT : Addr} {fd dT : FuncData} (F : FunC K "_law_plain" "_law_plain" sPlain f cp fd) (m : Ms P w K mg base T C CP CG CS M) (bp : LamX.TabB base mg cp T.p) (t : Tol K mg CS fT dT) :
    FnOk P w K mg base CX0 27 f fd [] (spPlain T) := by
  refine F.ok scPl (fun vs H Q E h => ?_) (fun A outer s H vs Q E hr h => ?_)
  · rw [h.1]
    rfl
  · obtain ⟨rfl, tk, k1⟩ := h
    have hu := hu_of hr
    obtain ⟨oc, od, kV, doc, pm2, an, cdv, ct, osl, rfl, lk, hcd⟩ := t.F.ex
    refine ⟨_, pss_cons (ps_set (i := 2) scPl.nd rfl (Or.inr rfl) (pe_make m.mm m.GI (hr.mono (by decide)) rfl m.L.mgC m.bI .nil passN (pa_cons (pe_disp (pps_cons pe_str pe_str pps_nil) (by rfl) (by rfl) (fun z => by cases z) (by decide)) pa_nil)))
      (pss_cons (ps_set (i := 0) scPl.nd rfl (Or.inl rfl) (pe_lst (pa_cons (pe_lamJ 0 bp rfl rfl (slams 0 (by decide)) plainQ rfl rfl rfl) (pa_cons (pe_lamJ 1 bp rfl rfl (slams 1 (by decide)) plainQ rfl rfl rfl) (pa_cons (pe_lamJ 2 bp rfl rfl (slams 2 (by decide)) plainQ rfl rfl rfl) (pa_cons (pe_lamJ 3 bp rfl rfl (slams 3 (by decide)) plainQ rfl rfl rfl) (pa_cons (pe_lamJ 4 bp rfl rfl (slams 4 (by decide)) plainQ rfl rfl rfl) (pa_cons (pe_lamJ 5 bp rfl rfl (slams 5 (by decide)) plainQ rfl rfl rfl) (pa_cons (pe_lamJ 6 bp rfl rfl (slams 6 (by decide)) plainQ rfl rfl rfl) (pa_cons (pe_lamJ 7 bp rfl rfl (slams 7 (by decide)) plainQ rfl rfl rfl) (pa_cons (pe_lamJ 8 bp rfl rfl (slams 8 (by decide)) plainQ rfl rfl rfl) (pa_cons (pe_lamJ 9 bp rfl rfl (slams 9 (by decide)) plainQ rfl rfl rfl) (pa_cons (pe_lamJ 10 bp rfl rfl (slams 10 (by decide)) plainQ rfl rfl rfl) (pa_cons (pe_lamJ 11 bp rfl rfl (slams 11 (by decide)) plainQ rfl rfl rfl) (pa_cons (pe_lamJ 12 bp rfl rfl (slams 12 (by decide)) plainQ rfl rfl rfl) pa_nil)))))))))))))))
      (pss_cons (ps_if (pt_cmpR (op_neD hr.units) (pe_lcP (own := [("f", 1)]) (g := gName 1) (tt := fun σ => _) rfl scPl.nd (pi_list (pv 0)) (blkOk_by (N := NP) (sc := defScope sPlain) (by decide +kernel)) (fun _ _ _ _ _ => pg_name (i := 1) scPl.nd rfl (Or.inl rfl))
            (fun pins σ s2 H2 C2 cl fpp I ff => pts_one (pt_cmpR op_ne (toldJ m t hr I ff rfl (Or.inl rfl)) pe_str (nomark _))) (fun _ _ _ _ _ => pe_int)) (pe_lst pa_nil) (nomark _))
        (pss_one (ps_ret pe_bl)) pss_nil)
      (pss_cons (ps_expr (pe_meth (pv 2) m.L.cl m.mW m.GW (hr.mono (by decide)) m.bW .nil passN (pa_cons pe_str (pa_cons pe_str pa_nil))))
      (pss_cons (ps_expr (pe_meth (pv 2) m.L.cl m.mW m.GW (hr.mono (by decide)) m.bW .nil passN (pa_cons pe_str (pa_cons pe_str pa_nil))))
      (pss_cons (ps_if (PW.pt (pw_or (pt_cmpR (op_neD hr.units) (pe_meth0 (pv 2) m.L.cl m.mS m.GS (hr.mono (by decide)) m.bS .nil pass0) (pe_tup (pa_cons (pe_tup pa_nil) (pa_cons (pe_tup (pa_cons (pe_tup (pa_cons pe_str (pa_cons pe_str pa_nil))) pa_nil)) (pa_cons (pe_tup (pa_cons pe_str pa_nil)) pa_nil)))) (nomark _))
          (pw_or (pt_val (pe_meth0 (pv 2) m.L.cl m.mC m.GC (hr.mono (by decide)) m.bC .nil pass0))
          (pw_or1 (pt_cmpR op_ne (pe_meth0 (pv 2) m.L.cl m.mZ m.GZ (hr.mono (by decide)) m.bZ .nil pass0) pe_int (nomark _))))))
        (pss_one (ps_ret pe_bl)) pss_nil)
      (pss_cons (ps_if (pt_cmpR (op_neD hr.units) (pe_meth0 (pv 2) m.L.cl m.mS m.GS (hr.mono (by decide)) m.bS .nil pass0) (pe_tup (pa_cons (pe_tup (pa_cons (pe_tup (pa_cons pe_str (pa_cons pe_str pa_nil))) (pa_cons (pe_tup (pa_cons pe_str (pa_cons pe_str pa_nil))) pa_nil))) (pa_cons (pe_tup pa_nil) (pa_cons (pe_tup pa_nil) pa_nil)))) (nomark _))
        (pss_one (ps_ret pe_bl)) pss_nil)
      (pss_cons (ps_expr (pe_meth0 (pv 2) m.L.cl m.mK m.GK (hr.mono (by decide)) m.bK .nil pass0))
      (pss_cons (ps_expr (pe_meth (pv 2) m.L.cl m.mE m.GE (hr.mono (by decide)) m.bE .nil passN (pa_cons pe_str pa_nil)))
      (pss_cons (ps_expr (pe_meth (pv 2) m.L.cl m.mW m.GW (hr.mono (by decide)) m.bW .nil passN (pa_cons pe_str (pa_cons pe_str pa_nil))))
      (pss_cons (ps_expr (pe_meth (pv 2) m.L.cl m.mA m.GA (hr.mono (by decide)) m.bA .nil passN (pa_cons pe_str pa_nil)))
      (pss_cons (ps_if (pt_not (PW.pt (pw_and (pt_cmpR op_eq (pe_hand (X := XP P w K mg base f cp A outer s H E) (k := 24) (params := lArg lamR) (body := lBody lamR) (scope := lScope lamR) (t := fun E => tResto C T CG E) id rfl t.mT t.F.kp lk hcd t.bT scTo rfl (Or.inl rfl) (LamX.told_gives (CS := CS) (ret := "StoreError") (e := "StoreError") rfl m.X.gS (by decide) (fun _ => rfl))
            (pe_lambdaC (params := lArg lamR) (body := lBody lamR) (scope := lScope lamR) bp rfl rfl lamR_S) (fun J => ⟨_, J⟩) hr lamR_S (bindNo rfl) (fun A2 o2 s2 H2 E2 f2 c2 hr2 => lbR m hr2)) pe_str (nomark _))
          (pw_and1 (pt_cmpR (op_eqF (Nat.lt_of_le_of_lt (Nat.le_add_right _ 64) hr.units)) (pe_fld (pv 2) rfl) (pe_disp (pps_cons pe_str pe_str pps_nil) (by rfl) (by rfl) (fun z => by cases z) (by decide)) (nomark _))))))
        (pss_one (ps_ret pe_bl)) pss_nil)
      (pss_one (ps_ret (pe_and (pe_cmpR op_isN (pe_meth (pv 2) m.L.cl m.mA m.GA (hr.mono (by decide)) m.bA .nil passN (pa_cons pe_str pa_nil)) pe_non (nomark _))
          (pe_and (pe_cmpR op_eq (pe_hand (X := XP P w K mg base f cp A outer s H E) (k := 24) (params := lArg lamQ) (body := lBody lamQ) (scope := lScope lamQ) (t := fun E => tRese C T CG E) id rfl t.mT t.F.kp lk hcd t.bT scTo rfl (Or.inl rfl) (LamX.told_gives (CS := CS) (ret := "StoreError") (e := "StoreError") rfl m.X.gS (by decide) (fun _ => rfl))
            (pe_lambdaC (params := lArg lamQ) (body := lBody lamQ) (scope := lScope lamQ) bp rfl rfl lamQ_S) (fun J => ⟨_, J⟩) hr lamQ_S (bindNo rfl) (fun A2 o2 s2 H2 E2 f2 c2 hr2 => lbQ m hr2)) pe_str (nomark _))
          (pe_and (pe_cmpR (op_eqF (Nat.lt_of_le_of_lt (Nat.le_add_right _ 64) hr.units)) (pe_fld (pv 2) rfl) (pe_disp (pps_cons pe_str pe_str (pps_cons pe_str pe_str pps_nil)) (by rfl) (by rfl) (fun z => by cases z) (by decide)) (nomark _))
          (pe_one (pe_cmpR (op_eqF (Nat.lt_of_le_of_lt (Nat.le_add_right _ 64) hr.units)) (pe_fld (pv 2) rfl) (pe_disp (pps_cons pe_str pe_str (pps_cons pe_str pe_str pps_nil)) (by rfl) (by rfl) (fun z => by cases z) (by decide)) (nomark _))))))))))))))))))), ?_⟩
    refine fun q0 hq0 => ⟨upd_same, [((Sum.inr "a" : Key), V.str "x")], rfl, by decide, ?_⟩
    rw [upd_upd, show mergeK [] [((Sum.inr "a" : Key), V.str "x")] = fk one1 by decide +kernel]
    have w1 : Go T H (upd H q0 (.dK (fk one1))) := go_upd tk hq0
    have eq0 : upd H q0 (.dK (fk one1)) q0 = some (.dK (fk one1)) := upd_same
    generalize upd H q0 (.dK (fk one1)) = H1 at w1 eq0 ⊢
    intro r dx0 hx hdx nx
    have w2 : Go T H1 (upd H1 dx0 (.own r)) := go_upd w1.2 hdx
    have hx2 : upd H1 dx0 (.own r) r = none := by rw [upd_ne (Ne.symm nx)]; exact hx
    have w3 : Go T (upd H1 dx0 (.own r)) (upd (upd H1 dx0 (.own r)) r (.ins C dx0 [])) := go_upd w2.2 hx2
    have w23 := w2.trans w3
    have er0 : upd (upd H1 dx0 (.own r)) r (.ins C dx0 []) r = some (.ins C dx0 []) := upd_same
    generalize upd (upd H1 dx0 (.own r)) r (.ins C dx0 []) = H2 at w3 w23 er0 ⊢
    have g2 := w1.trans w23
    refine ⟨r, dx0, q0, one1, rfl, er0, w23.at eq0, fok1.sm, w3.2, fun z => absurd z (by decide +kernel), fun _ G d1 d2 d3 g f1 f2 f3 sa => ⟨rfl, ?_⟩⟩
    have n0 : New T H G ⟨r, d1, d2, d3, one1, one1, one1, []⟩ := by
      have fr : Fresh H r := fresh_of w1 hx
      refine ⟨GoE.news g2 g fun b hb => by rw [List.mem_singleton.mp hb]; exact fr, fun b hb => ?_⟩
      have up : ∀ {d : Addr}, Fresh H2 d → Fresh H d := fun {d} f u e => by
        refine Classical.byContradiction fun z => ?_
        obtain ⟨ps, q⟩ := f u (g2.1 d u e (fun ps q => z ⟨ps, q⟩) (.inl (by simp)))
        exact z ⟨ps, q⟩
      simp only [Sta.ad, List.mem_cons, List.not_mem_nil, or_false] at hb
      rcases hb with rfl | rfl | rfl | rfl
      · exact fr
      · exact up f1
      · exact up f2
      · exact up f3
    clear w1 w2 w3 w23 hx2 hx hdx nx g f1 f2 f3 eq0 er0 hq0 g2
    -- the lambdas
    refine ⟨n0.1.2, fun J0 f0 g0 l0 => ⟨g0.2, fun J1 f1 g1 l1 => ⟨g1.2, fun J2 f2 g2 l2 => ⟨g2.2, fun J3 f3 g3 l3 => ⟨g3.2, fun J4 f4 g4 l4 => ⟨g4.2, fun J5 f5 g5 l5 => ⟨g5.2, fun J6 f6 g6 l6 => ⟨g6.2, fun J7 f7 g7 l7 => ⟨g7.2, fun J8 f8 g8 l8 => ⟨g8.2, fun J9 f9 g9 l9 => ⟨g9.2, fun J10 f10 g10 l10 => ⟨g10.2, fun J11 f11 g11 l11 => ⟨g11.2, fun J12 f12 g12 l12 => ?_⟩⟩⟩⟩⟩⟩⟩⟩⟩⟩⟩⟩⟩
    have z0 := (lamC_go (S := []) (lamC_go (S := []) (lamC_go (S := []) (lamC_go (S := []) (lamC_go (S := []) (lamC_go (S := []) (lamC_go (S := []) (lamC_go (S := []) (lamC_go (S := []) (lamC_go (S := []) (lamC_go (S := []) (lamC_go (S := []) l0 g1) g2) g3) g4) g5) g6) g7) g8) g9) g10) g11) g12)
    have z1 := (lamC_go (S := []) (lamC_go (S := []) (lamC_go (S := []) (lamC_go (S := []) (lamC_go (S := []) (lamC_go (S := []) (lamC_go (S := []) (lamC_go (S := []) (lamC_go (S := []) (lamC_go (S := []) (lamC_go (S := []) l1 g2) g3) g4) g5) g6) g7) g8) g9) g10) g11) g12)
    have z2 := (lamC_go (S := []) (lamC_go (S := []) (lamC_go (S := []) (lamC_go (S := []) (lamC_go (S := []) (lamC_go (S := []) (lamC_go (S := []) (lamC_go (S := []) (lamC_go (S := []) (lamC_go (S := []) l2 g3) g4) g5) g6) g7) g8) g9) g10) g11) g12)
    have z3 := (lamC_go (S := []) (lamC_go (S := []) (lamC_go (S := []) (lamC_go (S := []) (lamC_go (S := []) (lamC_go (S := []) (lamC_go (S := []) (lamC_go (S := []) (lamC_go (S := []) l3 g4) g5) g6) g7) g8) g9) g10) g11) g12)
    have z4 := (lamC_go (S := []) (lamC_go (S := []) (lamC_go (S := []) (lamC_go (S := []) (lamC_go (S := []) (lamC_go (S := []) (lamC_go (S := []) (lamC_go (S := []) l4 g5) g6) g7) g8) g9) g10) g11) g12)
    have z5 := (lamC_go (S := []) (lamC_go (S := []) (lamC_go (S := []) (lamC_go (S := []) (lamC_go (S := []) (lamC_go (S := []) (lamC_go (S := []) l5 g6) g7) g8) g9) g10) g11) g12)
    have z6 := (lamC_go (S := []) (lamC_go (S := []) (lamC_go (S := []) (lamC_go (S := []) (lamC_go (S := []) (lamC_go (S := []) l6 g7) g8) g9) g10) g11) g12)
    have z7 := (lamC_go (S := []) (lamC_go (S := []) (lamC_go (S := []) (lamC_go (S := []) (lamC_go (S := []) l7 g8) g9) g10) g11) g12)
    have z8 := (lamC_go (S := []) (lamC_go (S := []) (lamC_go (S := []) (lamC_go (S := []) l8 g9) g10) g11) g12)
    have z9 := (lamC_go (S := []) (lamC_go (S := []) (lamC_go (S := []) l9 g10) g11) g12)
    have z10 := (lamC_go (S := []) (lamC_go (S := []) l10 g11) g12)
    have z11 := (lamC_go (S := []) l11 g12)
    have gz := ((((((((((((g0.trans g1).trans g2).trans g3).trans g4).trans g5).trans g6).trans g7).trans g8).trans g9).trans g10).trans g11).trans g12)
    refine ⟨by show 13 ≤ sizeLine; decide, fun l hl => ?_⟩
    have gl := gz.trans (go_upd (S := []) (o := .lst [.ref f0, .ref f1, .ref f2, .ref f3, .ref f4, .ref f5, .ref f6, .ref f7, .ref f8, .ref f9, .ref f10, .ref f11, .ref f12]) gz.2 hl)
    have n1 := n0.go gl
    have sa1 := sa.go gl
    have el8 : upd J12 l (.lst [.ref f0, .ref f1, .ref f2, .ref f3, .ref f4, .ref f5, .ref f6, .ref f7, .ref f8, .ref f9, .ref f10, .ref f11, .ref f12]) l = some (.lst [.ref f0, .ref f1, .ref f2, .ref f3, .ref f4, .ref f5, .ref f6, .ref f7, .ref f8, .ref f9, .ref f10, .ref f11, .ref f12]) := upd_same
    have up : ∀ {ff : Addr} {j : Nat}, LJ (XP P w K mg base f cp A outer s H E) J12 ff j → LJ (XP P w K mg base f cp A outer s H E) (upd J12 l (.lst [.ref f0, .ref f1, .ref f2, .ref f3, .ref f4, .ref f5, .ref f6, .ref f7, .ref f8, .ref f9, .ref f10, .ref f11, .ref f12])) ff j := fun la => lamC_go (S := []) la (go_upd (S := []) gz.2 hl)
    have all : ∀ (i : Nat) (x : V), ([.ref f0, .ref f1, .ref f2, .ref f3, .ref f4, .ref f5, .ref f6, .ref f7, .ref f8, .ref f9, .ref f10, .ref f11, .ref f12] : List V)[i]? = some x → ∃ ff j, x = .ref ff ∧ j < 13 ∧ LJ (XP P w K mg base f cp A outer s H E) (upd J12 l (.lst [.ref f0, .ref f1, .ref f2, .ref f3, .ref f4, .ref f5, .ref f6, .ref f7, .ref f8, .ref f9, .ref f10, .ref f11, .ref f12])) ff j := fun i x hix => by
      rcases i with _ | _ | _ | _ | _ | _ | _ | _ | _ | _ | _ | _ | _ | i
      · cases hix; exact ⟨f0, 0, rfl, by decide, up z0⟩
      · cases hix; exact ⟨f1, 1, rfl, by decide, up z1⟩
      · cases hix; exact ⟨f2, 2, rfl, by decide, up z2⟩
      · cases hix; exact ⟨f3, 3, rfl, by decide, up z3⟩
      · cases hix; exact ⟨f4, 4, rfl, by decide, up z4⟩
      · cases hix; exact ⟨f5, 5, rfl, by decide, up z5⟩
      · cases hix; exact ⟨f6, 6, rfl, by decide, up z6⟩
      · cases hix; exact ⟨f7, 7, rfl, by decide, up z7⟩
      · cases hix; exact ⟨f8, 8, rfl, by decide, up z8⟩
      · cases hix; exact ⟨f9, 9, rfl, by decide, up z9⟩
      · cases hix; exact ⟨f10, 10, rfl, by decide, up z10⟩
      · cases hix; exact ⟨f11, 11, rfl, by decide, up z11⟩
      · cases hix; exact ⟨f12, 12, rfl, by decide, up l12⟩
      · cases hix
    generalize upd J12 l (.lst [.ref f0, .ref f1, .ref f2, .ref f3, .ref f4, .ref f5, .ref f6, .ref f7, .ref f8, .ref f9, .ref f10, .ref f11, .ref f12]) = G8 at gl n1 sa1 el8 all ⊢
    clear up z0 z1 z2 z3 z4 z5 z6 z7 z8 z9 z10 z11 gz l0 l1 l2 l3 l4 l5 l6 l7 l8 l9 l10 l11 l12 g0 g1 g2 g3 g4 g5 g6 g7 g8 g9 g10 g11 g12 n0 sa gl
    refine ⟨_, rfl, l, rfl, ⟨_, SqL.of el8⟩, fun D hD => lc_list (xs := [.ref f0, .ref f1, .ref f2, .ref f3, .ref f4, .ref f5, .ref f6, .ref f7, .ref f8, .ref f9, .ref f10, .ref f11, .ref f12]) (fun i G => Go T G8 G ∧ G D = some (.lst [])) ⟨go_upd n1.1.2 hD, upd_same⟩ (fun i G _ h => SqL.of (h.1.at el8)) (fun i x G hix h => ?_) (fun G h => ?_)⟩
    · obtain ⟨g, eD⟩ := h
      obtain ⟨ff, j, rfl, hj, la⟩ := all i x hix
      exact ⟨rfl, j, ff, hj, rfl, lamC_go (S := []) la g, ⟨_, rfl, sa1.go g, ⟨rfl, rfl, rfl, rfl⟩, g.2⟩, fun G' g' => ⟨rfl, _, rfl, iteF' (by decide) ⟨g.trans g', g'.at eD⟩⟩⟩
    obtain ⟨g, eD⟩ := h
    refine ⟨by decide, fun q hq => ⟨_, _, .lst (SqL.of (by rw [upd_ne (ne_of_none eD hq)]; exact eD)) .nil, .lst (SqL.of upd_same) .nil, by decide, by decide, _, rfl, iteF' (by decide) ?_⟩⟩
    have w10 : Go T G (upd G q (.lst [])) := go_upd g.2 hq
    have n2 := (n1.go g).go w10
    have sa2 := (sa1.go g).go w10
    generalize upd G q (.lst []) = G1 at w10 n2 sa2 ⊢
    clear n1 sa1 all el8 g eD w10 hq hD hl
    -- write("b", "y")
    obtain ⟨⟨dx, tp, er, ep⟩, _⟩ := id sa2
    refine ⟨_, rfl, r, dx, _, rfl, er, look_no (by decide +kernel), _, "b", "y", rfl, sa2, by unfold fsm; dsimp only; decide +kernel, n2.1.2, fun z => absurd (show badF (fPut one1 "b" "y") = true from z) (by decide +kernel), fun _ G2 dw st sa3 => ?_⟩
    have e3 : fPut one1 "b" "y" = A0 := by decide +kernel
    have n3 : New T H G2 ⟨r, d1, d2, dw, one1, one1, fPut one1 "b" "y", []⟩ := n2.step st
    have sa3 : SAt C G2 ⟨r, d1, d2, dw, one1, one1, fPut one1 "b" "y", []⟩ := sa3
    rw [e3] at n3 sa3
    clear n2 sa2 st er ep dx tp
    obtain ⟨⟨dx, tp, er, ep⟩, _⟩ := id sa3
    refine ⟨_, rfl, r, dx, _, rfl, er, look_no (by decide +kernel), _, "a", "z", rfl, sa3, by unfold fsm; dsimp only; decide +kernel, n3.1.2, fun z => absurd (show badF (fPut A0 "a" "z") = true from z) (by decide +kernel), fun _ G3 dw2 st sa4 => ?_⟩
    have e4 : fPut A0 "a" "z" = A1 := by decide +kernel
    have n4 : New T H G3 ⟨r, d1, d2, dw2, one1, one1, fPut A0 "a" "z", []⟩ := n3.step st
    have sa4 : SAt C G3 ⟨r, d1, d2, dw2, one1, one1, fPut A0 "a" "z", []⟩ := sa4
    rw [e4] at n4 sa4
    clear n3 sa3 st er ep dx tp
    -- status
    have so4 : sok ⟨r, d1, d2, dw2, one1, one1, A1, []⟩ := ⟨fok1, fok1, fokA1, patsN⟩
    have ly4 : lyingOf ⟨r, d1, d2, dw2, one1, one1, A1, []⟩ = ([("other", "a")] : List (Str × Str)) := by
      unfold lyingOf
      rw [chg01]
      try dsimp only
      decide +kernel
    have fr4 : freshOf ⟨r, d1, d2, dw2, one1, one1, A1, []⟩ = (["b"] : List Str) := by
      unfold freshOf
      rw [chg01]
      try dsimp only
      decide +kernel
    obtain ⟨⟨dx, tp, er, ep⟩, _⟩ := id sa4
    refine ⟨_, rfl, r, dx, _, rfl, er, look_no (by decide +kernel), _, rfl, sa4, so4, n4.1.2, fun G4 t t1 t2 t3 xs1 xs2 g et e1 al1 e2 al2 e3 => ⟨by show 0 ≤ sizeLine; decide, fun u1 hu1 => ⟨by show 2 ≤ sizeLine; decide, fun u2 hu2 => ⟨by show 1 ≤ sizeLine; decide, fun u3 hu3 => ⟨by show 1 ≤ sizeLine; decide, fun u4 hu4 => ⟨by show 3 ≤ sizeLine; decide, fun u5 hu5 => ?_⟩⟩⟩⟩⟩⟩
    rw [show chg (Sta.L ⟨r, d1, d2, dw2, one1, one1, A1, []⟩) (Sta.S ⟨r, d1, d2, dw2, one1, one1, A1, []⟩) = [] from chg_self one1] at al1
    rw [ly4] at al2
    rw [fr4] at e3
    have v1 : Go T G4 (upd G4 u1 (.tup [])) := go_upd g.2 hu1
    have c1 : upd G4 u1 (.tup []) u1 = some (.tup []) := upd_same
    generalize upd G4 u1 (.tup []) = V1 at v1 c1 hu2 hu3 hu4 hu5 ⊢
    have v2 : Go T V1 (upd V1 u2 (.tup [.str "other", .str "a"])) := go_upd v1.2 hu2
    have c2 : upd V1 u2 (.tup [.str "other", .str "a"]) u2 = some (.tup [.str "other", .str "a"]) := upd_same
    generalize upd V1 u2 (.tup [.str "other", .str "a"]) = V2 at v2 c2 hu3 hu4 hu5 ⊢
    have v3 : Go T V2 (upd V2 u3 (.tup [.ref u2])) := go_upd v2.2 hu3
    have c3 : upd V2 u3 (.tup [.ref u2]) u3 = some (.tup [.ref u2]) := upd_same
    generalize upd V2 u3 (.tup [.ref u2]) = V3 at v3 c3 hu4 hu5 ⊢
    have v4 : Go T V3 (upd V3 u4 (.tup [.str "b"])) := go_upd v3.2 hu4
    have c4 : upd V3 u4 (.tup [.str "b"]) u4 = some (.tup [.str "b"]) := upd_same
    generalize upd V3 u4 (.tup [.str "b"]) = V4 at v4 c4 hu5 ⊢
    have v5 : Go T V4 (upd V4 u5 (.tup [.ref u1, .ref u3, .ref u4])) := go_upd v4.2 hu5
    have c5 : upd V4 u5 (.tup [.ref u1, .ref u3, .ref u4]) u5 = some (.tup [.ref u1, .ref u3, .ref u4]) := upd_same
    generalize upd V4 u5 (.tup [.ref u1, .ref u3, .ref u4]) = V5 at v5 c5 ⊢
    have vv := (((v1.trans v2).trans v3).trans v4).trans v5
    have c4 := v5.t _ _ c4
    have c3 := v5.t _ _ (v4.t _ _ c3)
    have c2 := v5.t _ _ (v4.t _ _ (v3.t _ _ c2))
    have c1 := v5.t _ _ (v4.t _ _ (v3.t _ _ (v2.t _ _ c1)))
    refine ⟨.tuple [.tuple [], .tuple [.tuple [.str "other", .str "a"]], .tuple [.str "b"]], .tuple [.tuple [], .tuple [.tuple [.str "other", .str "a"]], .tuple [.str "b"]], .tup (SqT.of (vv.t _ _ et)) (.cons (.tup (SqT.of (vv.t _ _ e1)) (PairAt.dp (al1.imp fun _ _ h => h.ext vv.t))) (.cons (.tup (SqT.of (vv.t _ _ e2)) (PairAt.dp (al2.imp fun _ _ h => h.ext vv.t))) (.cons (.tup (SqT.of (vv.t _ _ e3)) (dp_strs ["b"])) .nil))),
      .tup (SqT.of c5) (.cons (.tup (SqT.of c1) .nil) (.cons (.tup (SqT.of c3) (.cons (.tup (SqT.of c2) (dp_strs ["other", "a"])) .nil)) (.cons (.tup (SqT.of c4) (dp_strs ["b"])) .nil))), by decide +kernel, by decide +kernel, _, rfl, iteF' (by decide +kernel) ?_⟩
    have n5 := (n4.go g).go vv
    have sa5 := (sa4.go g).go vv
    clear v1 v2 v3 v4 v5 vv c1 c2 c3 c4 c5 et e1 e2 e3 al1 al2 hu1 hu2 hu3 hu4 hu5 g n4 sa4 er ep dx tp
    -- is_clean
    obtain ⟨⟨dx, tp, er, ep⟩, _⟩ := id sa5
    refine ⟨_, rfl, r, dx, _, rfl, er, look_no (by decide +kernel), _, rfl, sa5, so4, n5.1.2, fun G6 g => ⟨_, rfl, iteF' ?_ ?_⟩⟩
    · unfold cleanB
      rw [ly4]
      simp
    have n6 := n5.go g
    have sa6 := sa5.go g
    clear g n5 sa5 er ep dx tp
    -- add_all
    have gone : goneL ⟨r, d1, d2, dw2, one1, one1, A1, []⟩ = [] := by
      unfold goneL
      show (srt (keysF one1)).filter _ = _
      rw [srt1]
      try dsimp only
      decide +kernel
    have more : moreL ⟨r, d1, d2, dw2, one1, one1, A1, []⟩ = (["a", "b"] : List Str) := by
      show (srt (keysF A1)).filter (moreB ⟨0, 0, 0, 0, one1, one1, A1, []⟩) = _
      rw [srtA1]
      decide +kernel
    have all : allS ⟨r, d1, d2, dw2, one1, one1, A1, []⟩ = A1 := by
      unfold allS
      rw [gone, more]
      try dsimp only
      decide +kernel
    obtain ⟨⟨dx, tp, er, ep⟩, _⟩ := id sa6
    refine ⟨_, rfl, r, dx, _, rfl, er, look_no (by decide +kernel), _, rfl, sa6, so4, by unfold wayFree; dsimp only; decide +kernel, n6.1.2, fun G7 st sa7 => ?_⟩
    have n7 : New T H G7 ⟨r, d1, d2, dw2, one1, allS ⟨r, d1, d2, dw2, one1, one1, A1, []⟩, A1, []⟩ := n6.step st
    have sa7 : SAt C G7 ⟨r, d1, d2, dw2, one1, allS ⟨r, d1, d2, dw2, one1, one1, A1, []⟩, A1, []⟩ := sa7
    rw [all] at n7 sa7
    rw [gone, more]
    refine ⟨rfl, _, rfl, iteF' (by decide) ?_⟩
    clear st n6 sa6 er ep dx tp
    -- status again
    have so7 : sok ⟨r, d1, d2, dw2, one1, A1, A1, []⟩ := ⟨fok1, fokA1, fokA1, patsN⟩
    have ly7 : lyingOf ⟨r, d1, d2, dw2, one1, A1, A1, []⟩ = [] := by
      unfold lyingOf
      rw [chg_self]
      rfl
    have fr7 : freshOf ⟨r, d1, d2, dw2, one1, A1, A1, []⟩ = [] := by
      unfold freshOf
      rw [chg_self]
      rfl
    obtain ⟨⟨dx, tp, er, ep⟩, _⟩ := id sa7
    refine ⟨_, rfl, r, dx, _, rfl, er, look_no (by decide +kernel), _, rfl, sa7, so7, n7.1.2, fun G8 t t1 t2 t3 xs1 xs2 g et e1 al1 e2 al2 e3 => ⟨by show 2 ≤ sizeLine; decide, fun u1 hu1 => ⟨by show 2 ≤ sizeLine; decide, fun u2 hu2 => ⟨by show 2 ≤ sizeLine; decide, fun u3 hu3 => ⟨by show 0 ≤ sizeLine; decide, fun u4 hu4 => ⟨by show 0 ≤ sizeLine; decide, fun u5 hu5 => ⟨by show 3 ≤ sizeLine; decide, fun u6 hu6 => ?_⟩⟩⟩⟩⟩⟩⟩
    rw [show chg (Sta.L ⟨r, d1, d2, dw2, one1, A1, A1, []⟩) (Sta.S ⟨r, d1, d2, dw2, one1, A1, A1, []⟩) = ([("other", "a"), ("come", "b")] : List (Str × Str)) from chg01] at al1
    rw [ly7] at al2
    rw [fr7] at e3
    have v1 : Go T G8 (upd G8 u1 (.tup [.str "other", .str "a"])) := go_upd g.2 hu1
    have c1 : upd G8 u1 (.tup [.str "other", .str "a"]) u1 = some (.tup [.str "other", .str "a"]) := upd_same
    generalize upd G8 u1 (.tup [.str "other", .str "a"]) = V1 at v1 c1 hu2 hu3 hu4 hu5 hu6 ⊢
    have v2 : Go T V1 (upd V1 u2 (.tup [.str "come", .str "b"])) := go_upd v1.2 hu2
    have c2 : upd V1 u2 (.tup [.str "come", .str "b"]) u2 = some (.tup [.str "come", .str "b"]) := upd_same
    generalize upd V1 u2 (.tup [.str "come", .str "b"]) = V2 at v2 c2 hu3 hu4 hu5 hu6 ⊢
    have v3 : Go T V2 (upd V2 u3 (.tup [.ref u1, .ref u2])) := go_upd v2.2 hu3
    have c3 : upd V2 u3 (.tup [.ref u1, .ref u2]) u3 = some (.tup [.ref u1, .ref u2]) := upd_same
    generalize upd V2 u3 (.tup [.ref u1, .ref u2]) = V3 at v3 c3 hu4 hu5 hu6 ⊢
    have v4 : Go T V3 (upd V3 u4 (.tup [])) := go_upd v3.2 hu4
    have c4 : upd V3 u4 (.tup []) u4 = some (.tup []) := upd_same
    generalize upd V3 u4 (.tup []) = V4 at v4 c4 hu5 hu6 ⊢
    have v5 : Go T V4 (upd V4 u5 (.tup [])) := go_upd v4.2 hu5
    have c5 : upd V4 u5 (.tup []) u5 = some (.tup []) := upd_same
    generalize upd V4 u5 (.tup []) = V5 at v5 c5 hu6 ⊢
    have v6 : Go T V5 (upd V5 u6 (.tup [.ref u3, .ref u4, .ref u5])) := go_upd v5.2 hu6
    have c6 : upd V5 u6 (.tup [.ref u3, .ref u4, .ref u5]) u6 = some (.tup [.ref u3, .ref u4, .ref u5]) := upd_same
    generalize upd V5 u6 (.tup [.ref u3, .ref u4, .ref u5]) = V6 at v6 c6 ⊢
    have vv := ((((v1.trans v2).trans v3).trans v4).trans v5).trans v6
    have c5 := v6.t _ _ c5
    have c4 := v6.t _ _ (v5.t _ _ c4)
    have c3 := v6.t _ _ (v5.t _ _ (v4.t _ _ c3))
    have c2 := v6.t _ _ (v5.t _ _ (v4.t _ _ (v3.t _ _ c2)))
    have c1 := v6.t _ _ (v5.t _ _ (v4.t _ _ (v3.t _ _ (v2.t _ _ c1))))
    refine ⟨.tuple [.tuple [.tuple [.str "other", .str "a"], .tuple [.str "come", .str "b"]], .tuple [], .tuple []], .tuple [.tuple [.tuple [.str "other", .str "a"], .tuple [.str "come", .str "b"]], .tuple [], .tuple []], .tup (SqT.of (vv.t _ _ et)) (.cons (.tup (SqT.of (vv.t _ _ e1)) (PairAt.dp (al1.imp fun _ _ h => h.ext vv.t))) (.cons (.tup (SqT.of (vv.t _ _ e2)) (PairAt.dp (al2.imp fun _ _ h => h.ext vv.t))) (.cons (.tup (SqT.of (vv.t _ _ e3)) (dp_strs [])) .nil))),
      .tup (SqT.of c6) (.cons (.tup (SqT.of c3) (.cons (.tup (SqT.of c1) (dp_strs ["other", "a"])) (.cons (.tup (SqT.of c2) (dp_strs ["come", "b"])) .nil))) (.cons (.tup (SqT.of c4) .nil) (.cons (.tup (SqT.of c5) .nil) .nil))), by decide +kernel, by decide +kernel, _, rfl, iteF' (by decide +kernel) ?_⟩
    have n8 := (n7.go g).go vv
    have sa8 := (sa7.go g).go vv
    clear v1 v2 v3 v4 v5 v6 vv c1 c2 c3 c4 c5 c6 et e1 e2 e3 al1 al2 hu1 hu2 hu3 hu4 hu5 hu6 g n7 sa7 er ep dx tp
    -- keep
    obtain ⟨⟨dx, tp, er, ep⟩, _⟩ := id sa8
    refine ⟨_, rfl, r, dx, _, rfl, er, look_no (by decide +kernel), _, rfl, sa8, n8.1.2, fun G9 dl dk st sa9 ed fd => ?_⟩
    have n9 : New T H G9 ⟨r, dl, d2, dw2, A1, A1, A1, []⟩ := n8.step st
    have sa9 : SAt C G9 ⟨r, dl, d2, dw2, A1, A1, A1, []⟩ := sa9
    clear st n8 sa8 er ep dx tp ed fd
    -- erase("a")
    obtain ⟨⟨dx, tp, er, ep⟩, _⟩ := id sa9
    refine ⟨_, rfl, r, dx, _, rfl, er, look_no (by decide +kernel), _, "a", rfl, sa9, n9.1.2, fun z => absurd (show (Sg.lk A1 "a").isSome = false from z) (by decide +kernel), fun _ G10 st sa10 => ?_⟩
    have e10 : fDrop A1 "a" = B1 := by decide +kernel
    have n10 : New T H G10 ⟨r, dl, d2, dw2, A1, A1, fDrop A1 "a", []⟩ := n9.step st
    have sa10 : SAt C G10 ⟨r, dl, d2, dw2, A1, A1, fDrop A1 "a", []⟩ := sa10
    rw [e10] at n10 sa10
    clear st n9 sa9 er ep dx tp
    -- write("a/c", "w")
    obtain ⟨⟨dx, tp, er, ep⟩, _⟩ := id sa10
    refine ⟨_, rfl, r, dx, _, rfl, er, look_no (by decide +kernel), _, "a/c", "w", rfl, sa10, by unfold fsm; dsimp only; decide +kernel, n10.1.2, fun z => absurd (show badF (fPut B1 "a/c" "w") = true from z) (by decide +kernel), fun _ G11 dw3 st sa11 => ?_⟩
    have e11 : fPut B1 "a/c" "w" = A2 := by decide +kernel
    have n11 : New T H G11 ⟨r, dl, d2, dw3, A1, A1, fPut B1 "a/c" "w", []⟩ := n10.step st
    have sa11 : SAt C G11 ⟨r, dl, d2, dw3, A1, A1, fPut B1 "a/c" "w", []⟩ := sa11
    rw [e11] at n11 sa11
    clear st n10 sa10 er ep dx tp
    -- add("a")
    obtain ⟨⟨dx, tp, er, ep⟩, _⟩ := id sa11
    have ad1 : addR ⟨r, dl, d2, dw3, A1, A1, A2, []⟩ "a" = some B1 := show addR ⟨0, 0, 0, 0, A1, A1, A2, []⟩ "a" = some B1 by decide +kernel
    refine ⟨_, rfl, r, dx, _, rfl, er, look_no (by decide +kernel), _, "a", rfl, sa11, fokA1.sm, lok_of (by decide +kernel), patsN, n11.1.2, fun z => (by rw [ad1] at z; cases z), fun S' eS G12 st sa12 => ?_⟩
    rw [ad1] at eS
    obtain rfl := Option.some.inj eS
    have n12 : New T H G12 ⟨r, dl, d2, dw3, A1, B1, A2, []⟩ := n11.step st
    have sa12 : SAt C G12 ⟨r, dl, d2, dw3, A1, B1, A2, []⟩ := sa12
    clear st n11 sa11 er ep dx tp eS
    -- restore("a") raises
    refine ⟨by rw [show (XP P w K mg base f cp A outer s H E).env.qual ++ "<lambda>" = lamP from plainQ]; exact n12.1.2.p, fun G13 fl b13 s13 l13 => ?_⟩
    have w13 : Go T G12 G13 := but_p n12.1.2 b13 (by rw [show lamP = (XP P w K mg base f cp A outer s H E).env.qual ++ "<lambda>" from plainQ.symm]; exact s13)
    obtain ⟨pm, c', ctv, q1, q2⟩ := l13
    refine ⟨fl, pm, c', ctv, rfl, q1, q2, q1, _, rfl, sa12.go w13, fokA2.sm, (show Sg.lk B1 "a" = none by decide +kernel), w13.2, fun G14 w14 => ⟨true, m.X.caughtE m.X.G, fun _ => ⟨rfl, _, rfl, iteT ?_⟩, fun q => nomatch q⟩⟩
    have n14 := (n12.go w13).go w14
    have sa14 := (sa12.go w13).go w14
    clear q1 q2 s13 b13 w13 w14 n12 sa12
    -- staged == {"b": "y"}
    obtain ⟨⟨dx, tp, er, ep⟩, el, es, ew, _⟩ := id sa14
    refine ⟨_, rfl, r, C, dx, _, _, rfl, er, m.L.cl, m.L.nS, look_s, fun p hp => ⟨upd_same, [((Sum.inr "b" : Key), V.str "y")], rfl, by decide, ?_⟩⟩
    rw [upd_upd, show mergeK [] [((Sum.inr "b" : Key), V.str "y")] = fk B1 by decide +kernel]
    have w15 : Go T G14 (upd G14 p (.dK (fk B1))) := go_upd n14.1.2 hp
    refine ⟨d2, p, B1, B1, rfl, rfl, w15.at es, upd_same, _, rfl, iteF' ?_ ?_⟩
    · decide +kernel
    have n15 := n14.go w15
    have sa15 := sa14.go w15
    generalize upd G14 p (.dK (fk B1)) = G15 at w15 n15 sa15 ⊢
    clear w15 n14 sa14 hp er ep dx tp el es ew
    -- add("a/c") is None
    obtain ⟨⟨dx, tp, er, ep⟩, _⟩ := id sa15
    have ad2 : addR ⟨r, dl, d2, dw3, A1, B1, A2, []⟩ "a/c" = some A2 := show addR ⟨0, 0, 0, 0, A1, B1, A2, []⟩ "a/c" = some A2 by decide +kernel
    refine ⟨_, rfl, r, dx, _, rfl, er, look_no (by decide +kernel), _, "a/c", rfl, sa15, fokB1.sm, lok_of (by decide +kernel), patsN, n15.1.2, fun z => (by rw [ad2] at z; cases z), fun S' eS G16 st sa16 => ?_⟩
    rw [ad2] at eS
    obtain rfl := Option.some.inj eS
    have n16 : New T H G16 ⟨r, dl, d2, dw3, A1, A2, A2, []⟩ := n15.step st
    have sa16 : SAt C G16 ⟨r, dl, d2, dw3, A1, A2, A2, []⟩ := sa16
    clear st n15 sa15 er ep dx tp eS
    refine ⟨rfl, _, rfl, (if_pos (by decide)).mpr ?_⟩
    -- reset("a") raises
    refine ⟨by rw [show (XP P w K mg base f cp A outer s H E).env.qual ++ "<lambda>" = lamP from plainQ]; exact n16.1.2.p, fun G17 fl b17 s17 l17 => ?_⟩
    have w17 : Go T G16 G17 := but_p n16.1.2 b17 (by rw [show lamP = (XP P w K mg base f cp A outer s H E).env.qual ++ "<lambda>" from plainQ.symm]; exact s17)
    obtain ⟨pm, c', ctv, q1, q2⟩ := l17
    refine ⟨fl, pm, c', ctv, rfl, q1, q2, q1, _, rfl, sa16.go w17, fokA2.sm, (show resetR ⟨0, 0, 0, 0, A1, A2, A2, []⟩ "a" = none by decide +kernel), w17.2, fun G18 w18 => ⟨true, m.X.caughtE m.X.G, fun _ => ⟨rfl, _, rfl, (if_pos (by decide)).mpr ?_⟩, fun q => nomatch q⟩⟩
    have n18 := (n16.go w17).go w18
    have sa18 := (sa16.go w17).go w18
    clear q1 q2 s17 b17 w17 w18 n16 sa16
    -- work
    obtain ⟨⟨dx, tp, er, ep⟩, el, es, ew, _⟩ := id sa18
    refine ⟨_, rfl, r, C, dx, _, _, rfl, er, m.L.cl, m.L.nW, look_w, fun p hp => ⟨upd_same, [((Sum.inr "b" : Key), V.str "y"), ((Sum.inr "a/c" : Key), V.str "w")], rfl, by decide, ?_⟩⟩
    rw [upd_upd, show mergeK [] [((Sum.inr "b" : Key), V.str "y"), ((Sum.inr "a/c" : Key), V.str "w")] = fk A2 by decide +kernel]
    have w19 : Go T G18 (upd G18 p (.dK (fk A2))) := go_upd n18.1.2 hp
    refine ⟨dw3, p, A2, A2, rfl, rfl, w19.at ew, upd_same, _, rfl, ?_⟩
    rw [show eqF A2 A2 = true by decide +kernel]
    refine (if_pos rfl).mpr ?_
    have n19 := n18.go w19
    have sa19 := sa18.go w19
    generalize upd G18 p (.dK (fk A2)) = G19 at w19 n19 sa19 ⊢
    clear w19 n18 sa18 hp er ep dx tp el es ew
    -- last
    obtain ⟨⟨dx, tp, er, ep⟩, el, es, ew, _⟩ := id sa19
    refine ⟨_, rfl, r, C, dx, _, _, rfl, er, m.L.cl, m.L.nL, look_l, fun p hp => ⟨upd_same, [((Sum.inr "a" : Key), V.str "z"), ((Sum.inr "b" : Key), V.str "y")], rfl, by decide, ?_⟩⟩
    rw [upd_upd, show mergeK [] [((Sum.inr "a" : Key), V.str "z"), ((Sum.inr "b" : Key), V.str "y")] = fk A1 by decide +kernel]
    have w20 : Go T G19 (upd G19 p (.dK (fk A1))) := go_upd n19.1.2 hp
    refine ⟨dl, p, A1, A1, rfl, rfl, w20.at el, upd_same, ?_⟩
    rw [show eqF A1 A1 = true by decide +kernel]
    exact k1 _ (n19.1.trans w20)
end
end Sg
end Text_S29
section Text_S30
set_option Elab.async false
set_option linter.all false
set_option maxRecDepth 100000
set_option maxHeartbeats 4000000
namespace Sg
open PySem PySem.Spec PyProof.Rows L2 Gx GxR LamY LamZ
/-! the plain laws of the deeds -/
def PTH : List Str := ["a", "a/b", "k.o", "x.o", "t", "t/c", "d", "d/e", "g"]
def TXT : List Str := ["", "x", ("y" : Str) ++ "\n" ++ "z", "q"]
def PATS : List Str := ["*.o", "t", "!k.o"]
structure Tok (A : Files) : Prop where
  k : ∀ q ∈ A, q.1 ∈ PTH ∧ q.2 ∈ TXT
  nd : (keysF A).Nodup
theorem Tok.key {A : Files} (t : Tok A) {p : Str} (h : p ∈ keysF A) : p ∈ PTH := by
  obtain ⟨q, hq, rfl⟩ := List.mem_map.mp h
  exact (t.k q hq).1
theorem pth_ok : ∀ p ∈ PTH, lokB p = true ∧ PyData.strOk p = true ∧ badP p = false ∧ p ≠ "" := by decide +kernel
theorem txt_ok : ∀ z ∈ TXT, PyData.strOk z = true := by decide +kernel
theorem Tok.fok {A : Files} (t : Tok A) : fok A := by
  refine fok_by ?_ (fun q hq => ⟨(pth_ok _ (t.k q hq).1).1, (pth_ok _ (t.k q hq).1).2.1, txt_ok _ (t.k q hq).2⟩) t.nd
  have := nd_len t.nd (fun x hx => t.key hx)
  rw [keysF_len] at this
  have e : PTH.length = 9 := rfl
  omega
theorem keys_put (A : Files) (p z : Str) : keysF (fPut A p z) = if p ∈ keysF A then keysF A else keysF A ++ [p] := by
  unfold fPut
  by_cases h : p ∈ keysF A
  · rw [if_pos h]
    obtain ⟨q, hq, e⟩ := List.mem_map.mp h
    rw [if_pos (List.any_eq_true.mpr ⟨q, hq, decide_eq_true e⟩)]
    unfold keysF
    rw [List.map_map]
    refine List.map_congr_left fun r _ => ?_
    show (if r.1 = p then (r.1, z) else r).1 = r.1
    split <;> rfl
  · rw [if_neg h, if_neg fun e => ?_]
    · unfold keysF
      rw [List.map_append]
      rfl
    · obtain ⟨q, hq, e⟩ := List.any_eq_true.mp e
      exact h (List.mem_map.mpr ⟨q, hq, of_decide_eq_true e⟩)
theorem mem_put {A : Files} {p z x : Str} : x ∈ keysF (fPut A p z) ↔ x ∈ keysF A ∨ x = p := by
  rw [keys_put]
  by_cases h : p ∈ keysF A
  · rw [if_pos h]
    exact ⟨.inl, fun e => e.elim id fun e => by rw [e]; exact h⟩
  · rw [if_neg h, List.mem_append, List.mem_singleton]
theorem nd_put {A : Files} {p z : Str} (nd : (keysF A).Nodup) : (keysF (fPut A p z)).Nodup := by
  rw [keys_put]
  by_cases h : p ∈ keysF A
  · rw [if_pos h]; exact nd
  · rw [if_neg h]
    refine List.nodup_append.mpr ⟨nd, by simp, fun x hx y hy e => ?_⟩
    rw [List.mem_singleton.mp hy] at e
    exact h (by rw [← e]; exact hx)
theorem mem_fPut {A : Files} {p z : Str} {q : Str × Str} (h : q ∈ fPut A p z) : q ∈ A ∨ q = (p, z) := by
  unfold fPut at h
  split at h
  · obtain ⟨r, hr, e⟩ := List.mem_map.mp h
    by_cases hz : r.1 = p
    · rw [if_pos hz] at e
      exact .inr (by rw [← e, hz])
    · rw [if_neg hz] at e
      exact .inl (by rw [← e]; exact hr)
  · rcases List.mem_append.mp h with h | h
    · exact .inl h
    · exact .inr (List.mem_singleton.mp h)
theorem Tok.put {A : Files} (t : Tok A) {p z : Str} (hp : p ∈ PTH) (hz : z ∈ TXT) : Tok (fPut A p z) := ⟨fun q hq => by
  rcases mem_fPut hq with h | h
  · exact t.k q h
  · rw [h]; exact ⟨hp, hz⟩, nd_put t.nd⟩
theorem Tok.sub {A B : Files} (t : Tok A) (s : B.Sublist A) : Tok B := ⟨fun q hq => t.k q (s.subset hq), (s.map _).nodup t.nd⟩
theorem Tok.drop {A : Files} (t : Tok A) (p : Str) : Tok (fDrop A p) := t.sub List.filter_sublist
theorem Tok.txt {A : Files} (t : Tok A) {p z : Str} (h : lk A p = some z) : z ∈ TXT := by
  obtain ⟨q, hq, _, rfl⟩ := lk_mem h
  exact (t.k q hq).2
theorem Tok.pth {A : Files} (t : Tok A) {p z : Str} (h : lk A p = some z) : p ∈ PTH := by
  obtain ⟨q, hq, rfl, _⟩ := lk_mem h
  exact (t.k q hq).1
theorem mem_drop {A : Files} {p x : Str} : x ∈ keysF (fDrop A p) ↔ x ∈ keysF A ∧ x ≠ p := by
  unfold keysF fDrop
  constructor
  · intro h
    obtain ⟨q, hq, rfl⟩ := List.mem_map.mp h
    obtain ⟨h1, h2⟩ := List.mem_filter.mp hq
    exact ⟨List.mem_map.mpr ⟨q, h1, rfl⟩, by simpa using h2⟩
  · intro ⟨h, n⟩
    obtain ⟨q, hq, rfl⟩ := List.mem_map.mp h
    exact List.mem_map.mpr ⟨q, List.mem_filter.mpr ⟨hq, by simpa using n⟩, rfl⟩
theorem starts_len {x y : Str} (h : Txt.startswith x y = true) : y.length ≤ x.length := by
  unfold Txt.startswith at h
  rw [Bool.and_eq_true, decide_eq_true_iff] at h
  omega
theorem starts_no (p : Str) : Txt.startswith p (p ++ "/") = false := by
  cases h : Txt.startswith p (p ++ "/") with
  | false => rfl
  | true =>
    have := starts_len h
    rw [app_len] at this
    have e : ("/" : Str).length = 1 := rfl
    omega
theorem wayS_self (p : Str) : wayS p p = false := by
  unfold wayS
  rw [starts_no]
  rfl
theorem wayS_comm (p q : Str) : wayS p q = wayS q p := by
  unfold wayS
  exact Bool.or_comm _ _
theorem way_no {A : Files} {p : Str} : way A p = false ↔ ∀ q ∈ keysF A, wayS p q = false := by
  unfold way
  rw [List.any_eq_false]
  exact ⟨fun h q hq => by simpa using h q hq, fun h q hq => by simpa using h q hq⟩
theorem wayFree.sub {A B : Files} (h : wayFree A) (s : ∀ x ∈ keysF B, x ∈ keysF A) : wayFree B := fun p hp q hq => h p (s p hp) q (s q hq)
theorem wayFree.drop {A : Files} (h : wayFree A) (p : Str) : wayFree (fDrop A p) := h.sub fun x hx => (mem_drop.mp hx).1
theorem wayFree.put {A : Files} (h : wayFree A) {p z : Str} (n : way (fDrop A p) p = false) : wayFree (fPut A p z) := by
  have n' : ∀ q ∈ keysF A, wayS p q = false := fun q hq => by
    by_cases e : q = p
    · rw [e]; exact wayS_self p
    · exact way_no.mp n q (mem_drop.mpr ⟨hq, e⟩)
  intro x hx y hy
  rcases mem_put.mp hx with h1 | h1
  · rcases mem_put.mp hy with h2 | h2
    · exact h x h1 y h2
    · rw [h2, wayS_comm]; exact n' x h1
  · rcases mem_put.mp hy with h2 | h2
    · rw [h1]; exact n' y h2
    · rw [h1, h2]; exact wayS_self _
theorem way_drop {A : Files} {p : Str} (h : way A p = false) (q : Str) : way (fDrop A q) p = false := way_no.mpr fun x hx => way_no.mp h x (mem_drop.mp hx).1
/-- what check_files finds in a table where one is written -/
theorem bad_put {A : Files} (t : Tok A) (wf : wayFree A) {p z : Str} (hp : p ∈ PTH ∨ p = "") : badF (fPut A p z) = (decide (p = "") || way (fDrop A p) p) := by
  rcases hp with hp | rfl
  · rw [decide_eq_false (pth_ok p hp).2.2.2, Bool.false_or]
    cases hw : way (fDrop A p) p with
    | false =>
      have wf2 : wayFree (fPut A p z) := wf.put hw
      unfold badF
      rw [List.any_eq_false]
      intro x hx
      have hb : badP x = false := by
        rcases mem_put.mp hx with h | rfl
        · exact (pth_ok x (t.key h)).2.2.1
        · exact (pth_ok _ hp).2.2.1
      have hf : isFold (fPut A p z) x = false := by
        unfold isFold
        rw [List.any_eq_false]
        intro y hy e
        have := wf2 x hx y hy
        unfold wayS at this
        rw [e] at this
        cases this
      rw [hb, hf]
      simp
    | true =>
      unfold way at hw
      obtain ⟨y, hy, e⟩ := List.any_eq_true.mp hw
      have hy2 := (mem_drop.mp hy).1
      unfold badF
      rw [List.any_eq_true]
      unfold wayS at e
      rcases (Bool.or_eq_true _ _).mp e with e | e
      · exact ⟨p, mem_put.mpr (.inr rfl), by rw [show isFold (fPut A p z) p = true from List.any_eq_true.mpr ⟨y, mem_put.mpr (.inl hy2), e⟩, Bool.or_true]⟩
      · exact ⟨y, mem_put.mpr (.inl hy2), by rw [show isFold (fPut A p z) y = true from List.any_eq_true.mpr ⟨p, mem_put.mpr (.inr rfl), e⟩, Bool.or_true]⟩
  · rw [decide_eq_true rfl, Bool.true_or]
    unfold badF
    rw [List.any_eq_true]
    exact ⟨"", mem_put.mpr (.inr rfl), by rw [show badP "" = true by decide +kernel, Bool.true_or]⟩
/-- what holds of a stage between the deeds -/
structure Inv8 (s : Sta) : Prop where
  tl : Tok s.L
  ts : Tok s.S
  tw : Tok s.W
  fs : wayFree s.S
  fw : wayFree s.W
  pp : s.P = PATS
theorem pats_ok : patsOk PATS := ⟨by decide, by decide +kernel⟩
theorem Inv8.sok {s : Sta} (i : Inv8 s) : sok s := ⟨i.tl.fok, i.ts.fok, i.tw.fok, by rw [i.pp]; exact pats_ok⟩
theorem out_ok : ∀ p ∈ PTH, ∃ n r, Txt.split p "/" = n :: r ∧ outN n = leftOut PATS p ∧ p.length ≤ 100 ∧ n.length ≤ 100 ∧ r.length ≤ 100 := by
  intro p hp
  have : ∀ p ∈ PTH, (match Txt.split p "/" with
    | n :: r => outN n == leftOut PATS p && (decide (p.length ≤ 100) && (decide (n.length ≤ 100) && decide (r.length ≤ 100)))
    | [] => false) = true := by decide +kernel
  have h := this p hp
  cases e : Txt.split p "/" with
  | nil => rw [e] at h; cases h
  | cons n r =>
    rw [e] at h
    simp only [Bool.and_eq_true, beq_iff_eq, decide_eq_true_iff] at h
    exact ⟨n, r, rfl, h.1, h.2.1, h.2.2.1, h.2.2.2⟩
end Sg
end Text_S30
section Text_S31
set_option Elab.async false
set_option linter.all false
set_option maxRecDepth 100000
set_option maxHeartbeats 4000000
namespace Sg
open PySem PySem.Spec PyProof.Rows L2 Gx GxR LamY LamZ
/-! _law_deed: its lambdas -/
theorem deedQ : (("_law_deed" : Str) ++ ".<locals>." ++ "<lambda>" : Str) = lamM := by decide +kernel
def deedB : List Stmt := defBody sDeed
def ifBody (i : Nat) : List Stmt := match deedB.getD i noS with
  | .If _ b _ _ => b
  | _ => []
def lastS : List Stmt → Stmt
  | [] => noS
  | [s] => s
  | _ :: r => lastS r
def toldLam : Stmt → Expr
  | .Return (some (.Compare (.Compare (.Call _ [e] _ _) _ _ _) _ _ _)) _ => e
  | _ => noE
abbrev ND : List Str := ["dice", "stage", "own", "paths", "sort", "path", "other", "text", "work", "staged", "last", "good", "files", "loose", "one", "clean", "gone", "more"]
theorem scD : FnScope ND ["dice", "stage", "own"] (defScope sDeed) := ⟨rfl, rfl, rfl, by decide +kernel, rfl, by decide +kernel, by decide +kernel⟩
abbrev deedCx (P : Program) (w : World) (K : PySem.W.Frag) (mg : Str → Option Value) (base : Heap) (f cm : Addr) (A : Around) (outer : List Env) (s : Shared) (H : Hp) (E : XK) : Cx := (cxOf CX0 P w K mg base ND "_law_deed" (defScope sDeed) f (.ref cm) A outer s H E).nox
def tDo1 (C : Addr) (sp : Sp) (i : Nat) (E : XK) : TE := fun σ H Q => ∃ (s : Sta) (v : V), σ[1]? = some (some (.ref s.r)) ∧ SAt C H s ∧ σ[i]? = some (some v) ∧ sp [.ref s.r, v] H Q E
def tDo2 (C : Addr) (sp : Sp) (i j : Nat) (E : XK) : TE := fun σ H Q => ∃ (s : Sta) (v v2 : V), σ[1]? = some (some (.ref s.r)) ∧ SAt C H s ∧ σ[i]? = some (some v) ∧ σ[j]? = some (some v2) ∧ sp [.ref s.r, v, v2] H Q E
/-- what is raised is caught, and told -/
def EC (K : PySem.W.Frag) (CS : Addr) (Q : VK) : XK := fun cls _ H' => ∃ b, PySem.W.exmOne K cls (.ref CS) = some b ∧ (b = true → Q (.str "StoreError") H') ∧ (b = false → False)
def tTd (K : PySem.W.Frag) (T : Tb) (CS : Addr) (tx : XK → TE) : TE := fun σ H Q => TOk T H ∧ ∀ G, Go T H G → tx (EC K CS Q) σ G Q
theorem ec_P {K : PySem.W.Frag} {mg : Str → Option Value} {CP CG CS : Addr} {Q : VK} {H' : Hp} (X : Er K mg CP CG CS) (h : Q (.str "StoreError") H') : EC K CS Q (.ref CP) none H' := ⟨true, X.caughtE X.P, fun _ => h, fun q => nomatch q⟩
theorem ec_G {K : PySem.W.Frag} {mg : Str → Option Value} {CP CG CS : Addr} {Q : VK} {H' : Hp} (X : Er K mg CP CG CS) (h : Q (.str "StoreError") H') : EC K CS Q (.ref CG) none H' := ⟨true, X.caughtE X.G, fun _ => h, fun q => nomatch q⟩
section
variable {P : Program} {w : World} {K : PySem.W.Frag} {mg : Str → Option Value} {base : Heap} {T : Tb} {C CP CG CS : Addr} {M : MD}
def lmW : Expr := toldLam (lastS (ifBody 3))
theorem lmW_S : LamX.LamS (defScope sDeed) (lScope lmW) := LamX.lamS_by (by decide +kernel)
theorem ldW {fp cm f c' : Addr} {Ao A : Around} {oo outer : List Env} {so s : Shared} {Ho H : Hp} {Eo E : XK} (m : Ms P w K mg base T C CP CG CS M) (hr : Room 24 (A.deeper (LamX.lamEnv (deedCx P w K mg base fp cm Ao oo so Ho Eo) (lScope lmW) s.heap.objs.size f c'))) :
    PE (LamX.lamCx (deedCx P w K mg base fp cm Ao oo so Ho Eo) A outer s H E (lScope lmW) f c') (lBody lmW) (tDo2 C (spWrite C T CP) 5 7 E) := by
  refine L2.PE.weak (pe_meth (pv 1) m.L.cl m.mW m.GW (hr.mono (by decide)) m.bW .nil (passes_call (takes_of rfl rfl rfl rfl) (fun _ _ _ _ e => e)) (pa_cons (pv 5) (pa_cons (pv 7) pa_nil))) fun σ H Q h => ?_
  obtain ⟨s, v, v2, e1, sa, e5, e7, h⟩ := h
  obtain ⟨⟨dx, tp, er, ep⟩, _⟩ := id sa
  exact ⟨_, e1, s.r, dx, _, rfl, er, look_no (by decide +kernel), _, e5, _, e7, h⟩
theorem tdW {f cm fT : Addr} {A : Around} {outer : List Env} {s : Shared} {H0 : Hp} {E : XK} {dT : FuncData} {p1 p2 pos : Pos} (m : Ms P w K mg base T C CP CG CS M) (bm : LamX.TabB base mg cm T.m) (t : Tol K mg CS fT dT) (hr : Room 26 (deedCx P w K mg base f cm A outer s H0 E).A) :
    PE (deedCx P w K mg base f cm A outer s H0 E) (.Call (.Name "_law_told" p1) [.Lambda (lArg lmW) (lBody lmW) (lScope lmW) p2] [] pos) (tTd K T CS (tDo2 C (spWrite C T CP) 5 7)) := by
  obtain ⟨oc, od, kV, doc, pm2, an, cdv, ct, osl, ed, lk, hcd⟩ := t.F.ex
  have bT := t.bT
  rw [ed] at bT lk
  refine L2.PE.weak (pe_hand (X := deedCx P w K mg base f cm A outer s H0 E) (k := 24) (params := lArg lmW) (body := lBody lmW) (scope := lScope lmW) (t := tDo2 C (spWrite C T CP) 5 7) id rfl t.mT t.F.kp lk hcd bT scTo rfl (Or.inl rfl) (LamX.told_gives (CS := CS) (ret := "StoreError") (e := "StoreError") rfl m.X.gS (by decide) (fun _ => rfl))
      (pe_lambdaC (params := lArg lmW) (body := lBody lmW) (scope := lScope lmW) bm rfl rfl lmW_S) (fun J => ⟨_, J⟩) hr lmW_S (bindNo rfl) (fun A2 o2 s2 H2 E2 f2 c2 hr2 => ldW m hr2)) fun σ H Q h => ?_
  obtain ⟨tk, h⟩ := h
  refine ⟨by rw [show (deedCx P w K mg base f cm A outer s H0 E).env.qual ++ "<lambda>" = lamM from deedQ]; exact tk.m, fun G1 fl b1 s1 l1 => ?_⟩
  have w1 : Go T H G1 := but_m tk b1 (by rw [show lamM = (deedCx P w K mg base f cm A outer s H0 E).env.qual ++ "<lambda>" from deedQ.symm]; exact s1)
  obtain ⟨pm, c', ctv, q1, q2⟩ := l1
  exact ⟨fl, pm, c', ctv, rfl, q1, q2, q1, h G1 w1⟩
def lmE : Expr := toldLam (lastS (ifBody 4))
theorem lmE_S : LamX.LamS (defScope sDeed) (lScope lmE) := LamX.lamS_by (by decide +kernel)
theorem ldE {fp cm f c' : Addr} {Ao A : Around} {oo outer : List Env} {so s : Shared} {Ho H : Hp} {Eo E : XK} (m : Ms P w K mg base T C CP CG CS M) (hr : Room 24 (A.deeper (LamX.lamEnv (deedCx P w K mg base fp cm Ao oo so Ho Eo) (lScope lmE) s.heap.objs.size f c'))) :
    PE (LamX.lamCx (deedCx P w K mg base fp cm Ao oo so Ho Eo) A outer s H E (lScope lmE) f c') (lBody lmE) (tDo1 C (spErase C T CG) 5 E) := by
  refine L2.PE.weak (pe_meth (pv 1) m.L.cl m.mE m.GE (hr.mono (by decide)) m.bE .nil (passes_call (takes_of rfl rfl rfl rfl) (fun _ _ _ _ e => e)) (pa_cons (pv 5) pa_nil)) fun σ H Q h => ?_
  obtain ⟨s, v, e1, sa, e5, h⟩ := h
  obtain ⟨⟨dx, tp, er, ep⟩, _⟩ := id sa
  exact ⟨_, e1, s.r, dx, _, rfl, er, look_no (by decide +kernel), _, e5, h⟩
theorem tdE {f cm fT : Addr} {A : Around} {outer : List Env} {s : Shared} {H0 : Hp} {E : XK} {dT : FuncData} {p1 p2 pos : Pos} (m : Ms P w K mg base T C CP CG CS M) (bm : LamX.TabB base mg cm T.m) (t : Tol K mg CS fT dT) (hr : Room 26 (deedCx P w K mg base f cm A outer s H0 E).A) :
    PE (deedCx P w K mg base f cm A outer s H0 E) (.Call (.Name "_law_told" p1) [.Lambda (lArg lmE) (lBody lmE) (lScope lmE) p2] [] pos) (tTd K T CS (tDo1 C (spErase C T CG) 5)) := by
  obtain ⟨oc, od, kV, doc, pm2, an, cdv, ct, osl, ed, lk, hcd⟩ := t.F.ex
  have bT := t.bT
  rw [ed] at bT lk
  refine L2.PE.weak (pe_hand (X := deedCx P w K mg base f cm A outer s H0 E) (k := 24) (params := lArg lmE) (body := lBody lmE) (scope := lScope lmE) (t := tDo1 C (spErase C T CG) 5) id rfl t.mT t.F.kp lk hcd bT scTo rfl (Or.inl rfl) (LamX.told_gives (CS := CS) (ret := "StoreError") (e := "StoreError") rfl m.X.gS (by decide) (fun _ => rfl))
      (pe_lambdaC (params := lArg lmE) (body := lBody lmE) (scope := lScope lmE) bm rfl rfl lmE_S) (fun J => ⟨_, J⟩) hr lmE_S (bindNo rfl) (fun A2 o2 s2 H2 E2 f2 c2 hr2 => ldE m hr2)) fun σ H Q h => ?_
  obtain ⟨tk, h⟩ := h
  refine ⟨by rw [show (deedCx P w K mg base f cm A outer s H0 E).env.qual ++ "<lambda>" = lamM from deedQ]; exact tk.m, fun G1 fl b1 s1 l1 => ?_⟩
  have w1 : Go T H G1 := but_m tk b1 (by rw [show lamM = (deedCx P w K mg base f cm A outer s H0 E).env.qual ++ "<lambda>" from deedQ.symm]; exact s1)
  obtain ⟨pm, c', ctv, q1, q2⟩ := l1
  exact ⟨fl, pm, c', ctv, rfl, q1, q2, q1, h G1 w1⟩
def lmA : Expr := toldLam (lastS (ifBody 5))
theorem lmA_S : LamX.LamS (defScope sDeed) (lScope lmA) := LamX.lamS_by (by decide +kernel)
theorem ldA {fp cm f c' : Addr} {Ao A : Around} {oo outer : List Env} {so s : Shared} {Ho H : Hp} {Eo E : XK} (m : Ms P w K mg base T C CP CG CS M) (hr : Room 24 (A.deeper (LamX.lamEnv (deedCx P w K mg base fp cm Ao oo so Ho Eo) (lScope lmA) s.heap.objs.size f c'))) :
    PE (LamX.lamCx (deedCx P w K mg base fp cm Ao oo so Ho Eo) A outer s H E (lScope lmA) f c') (lBody lmA) (tDo1 C (spAdd C T CG) 5 E) := by
  refine L2.PE.weak (pe_meth (pv 1) m.L.cl m.mA m.GA (hr.mono (by decide)) m.bA .nil (passes_call (takes_of rfl rfl rfl rfl) (fun _ _ _ _ e => e)) (pa_cons (pv 5) pa_nil)) fun σ H Q h => ?_
  obtain ⟨s, v, e1, sa, e5, h⟩ := h
  obtain ⟨⟨dx, tp, er, ep⟩, _⟩ := id sa
  exact ⟨_, e1, s.r, dx, _, rfl, er, look_no (by decide +kernel), _, e5, h⟩
theorem tdA {f cm fT : Addr} {A : Around} {outer : List Env} {s : Shared} {H0 : Hp} {E : XK} {dT : FuncData} {p1 p2 pos : Pos} (m : Ms P w K mg base T C CP CG CS M) (bm : LamX.TabB base mg cm T.m) (t : Tol K mg CS fT dT) (hr : Room 26 (deedCx P w K mg base f cm A outer s H0 E).A) :
    PE (deedCx P w K mg base f cm A outer s H0 E) (.Call (.Name "_law_told" p1) [.Lambda (lArg lmA) (lBody lmA) (lScope lmA) p2] [] pos) (tTd K T CS (tDo1 C (spAdd C T CG) 5)) := by
  obtain ⟨oc, od, kV, doc, pm2, an, cdv, ct, osl, ed, lk, hcd⟩ := t.F.ex
  have bT := t.bT
  rw [ed] at bT lk
  refine L2.PE.weak (pe_hand (X := deedCx P w K mg base f cm A outer s H0 E) (k := 24) (params := lArg lmA) (body := lBody lmA) (scope := lScope lmA) (t := tDo1 C (spAdd C T CG) 5) id rfl t.mT t.F.kp lk hcd bT scTo rfl (Or.inl rfl) (LamX.told_gives (CS := CS) (ret := "StoreError") (e := "StoreError") rfl m.X.gS (by decide) (fun _ => rfl))
      (pe_lambdaC (params := lArg lmA) (body := lBody lmA) (scope := lScope lmA) bm rfl rfl lmA_S) (fun J => ⟨_, J⟩) hr lmA_S (bindNo rfl) (fun A2 o2 s2 H2 E2 f2 c2 hr2 => ldA m hr2)) fun σ H Q h => ?_
  obtain ⟨tk, h⟩ := h
  refine ⟨by rw [show (deedCx P w K mg base f cm A outer s H0 E).env.qual ++ "<lambda>" = lamM from deedQ]; exact tk.m, fun G1 fl b1 s1 l1 => ?_⟩
  have w1 : Go T H G1 := but_m tk b1 (by rw [show lamM = (deedCx P w K mg base f cm A outer s H0 E).env.qual ++ "<lambda>" from deedQ.symm]; exact s1)
  obtain ⟨pm, c', ctv, q1, q2⟩ := l1
  exact ⟨fl, pm, c', ctv, rfl, q1, q2, q1, h G1 w1⟩
def lmR : Expr := toldLam (lastS (ifBody 6))
theorem lmR_S : LamX.LamS (defScope sDeed) (lScope lmR) := LamX.lamS_by (by decide +kernel)
theorem ldR {fp cm f c' : Addr} {Ao A : Around} {oo outer : List Env} {so s : Shared} {Ho H : Hp} {Eo E : XK} (m : Ms P w K mg base T C CP CG CS M) (hr : Room 24 (A.deeper (LamX.lamEnv (deedCx P w K mg base fp cm Ao oo so Ho Eo) (lScope lmR) s.heap.objs.size f c'))) :
    PE (LamX.lamCx (deedCx P w K mg base fp cm Ao oo so Ho Eo) A outer s H E (lScope lmR) f c') (lBody lmR) (tDo1 C (spReset C T CG) 5 E) := by
  refine L2.PE.weak (pe_meth (pv 1) m.L.cl m.mR m.GR (hr.mono (by decide)) m.bR .nil (passes_call (takes_of rfl rfl rfl rfl) (fun _ _ _ _ e => e)) (pa_cons (pv 5) pa_nil)) fun σ H Q h => ?_
  obtain ⟨s, v, e1, sa, e5, h⟩ := h
  obtain ⟨⟨dx, tp, er, ep⟩, _⟩ := id sa
  exact ⟨_, e1, s.r, dx, _, rfl, er, look_no (by decide +kernel), _, e5, h⟩
theorem tdR {f cm fT : Addr} {A : Around} {outer : List Env} {s : Shared} {H0 : Hp} {E : XK} {dT : FuncData} {p1 p2 pos : Pos} (m : Ms P w K mg base T C CP CG CS M) (bm : LamX.TabB base mg cm T.m) (t : Tol K mg CS fT dT) (hr : Room 26 (deedCx P w K mg base f cm A outer s H0 E).A) :
    PE (deedCx P w K mg base f cm A outer s H0 E) (.Call (.Name "_law_told" p1) [.Lambda (lArg lmR) (lBody lmR) (lScope lmR) p2] [] pos) (tTd K T CS (tDo1 C (spReset C T CG) 5)) := by
  obtain ⟨oc, od, kV, doc, pm2, an, cdv, ct, osl, ed, lk, hcd⟩ := t.F.ex
  have bT := t.bT
  rw [ed] at bT lk
  refine L2.PE.weak (pe_hand (X := deedCx P w K mg base f cm A outer s H0 E) (k := 24) (params := lArg lmR) (body := lBody lmR) (scope := lScope lmR) (t := tDo1 C (spReset C T CG) 5) id rfl t.mT t.F.kp lk hcd bT scTo rfl (Or.inl rfl) (LamX.told_gives (CS := CS) (ret := "StoreError") (e := "StoreError") rfl m.X.gS (by decide) (fun _ => rfl))
      (pe_lambdaC (params := lArg lmR) (body := lBody lmR) (scope := lScope lmR) bm rfl rfl lmR_S) (fun J => ⟨_, J⟩) hr lmR_S (bindNo rfl) (fun A2 o2 s2 H2 E2 f2 c2 hr2 => ldR m hr2)) fun σ H Q h => ?_
  obtain ⟨tk, h⟩ := h
  refine ⟨by rw [show (deedCx P w K mg base f cm A outer s H0 E).env.qual ++ "<lambda>" = lamM from deedQ]; exact tk.m, fun G1 fl b1 s1 l1 => ?_⟩
  have w1 : Go T H G1 := but_m tk b1 (by rw [show lamM = (deedCx P w K mg base f cm A outer s H0 E).env.qual ++ "<lambda>" from deedQ.symm]; exact s1)
  obtain ⟨pm, c', ctv, q1, q2⟩ := l1
  exact ⟨fl, pm, c', ctv, rfl, q1, q2, q1, h G1 w1⟩
def lmY : Expr := toldLam (lastS (ifBody 7))
theorem lmY_S : LamX.LamS (defScope sDeed) (lScope lmY) := LamX.lamS_by (by decide +kernel)
theorem ldY {fp cm f c' : Addr} {Ao A : Around} {oo outer : List Env} {so s : Shared} {Ho H : Hp} {Eo E : XK} (m : Ms P w K mg base T C CP CG CS M) (hr : Room 24 (A.deeper (LamX.lamEnv (deedCx P w K mg base fp cm Ao oo so Ho Eo) (lScope lmY) s.heap.objs.size f c'))) :
    PE (LamX.lamCx (deedCx P w K mg base fp cm Ao oo so Ho Eo) A outer s H E (lScope lmY) f c') (lBody lmY) (tDo1 C (spRestore C T CG) 5 E) := by
  refine L2.PE.weak (pe_meth (pv 1) m.L.cl m.mY m.GY (hr.mono (by decide)) m.bY .nil (passes_call (takes_of rfl rfl rfl rfl) (fun _ _ _ _ e => e)) (pa_cons (pv 5) pa_nil)) fun σ H Q h => ?_
  obtain ⟨s, v, e1, sa, e5, h⟩ := h
  obtain ⟨⟨dx, tp, er, ep⟩, _⟩ := id sa
  exact ⟨_, e1, s.r, dx, _, rfl, er, look_no (by decide +kernel), _, e5, h⟩
theorem tdY {f cm fT : Addr} {A : Around} {outer : List Env} {s : Shared} {H0 : Hp} {E : XK} {dT : FuncData} {p1 p2 pos : Pos} (m : Ms P w K mg base T C CP CG CS M) (bm : LamX.TabB base mg cm T.m) (t : Tol K mg CS fT dT) (hr : Room 26 (deedCx P w K mg base f cm A outer s H0 E).A) :
    PE (deedCx P w K mg base f cm A outer s H0 E) (.Call (.Name "_law_told" p1) [.Lambda (lArg lmY) (lBody lmY) (lScope lmY) p2] [] pos) (tTd K T CS (tDo1 C (spRestore C T CG) 5)) := by
  obtain ⟨oc, od, kV, doc, pm2, an, cdv, ct, osl, ed, lk, hcd⟩ := t.F.ex
  have bT := t.bT
  rw [ed] at bT lk
  refine L2.PE.weak (pe_hand (X := deedCx P w K mg base f cm A outer s H0 E) (k := 24) (params := lArg lmY) (body := lBody lmY) (scope := lScope lmY) (t := tDo1 C (spRestore C T CG) 5) id rfl t.mT t.F.kp lk hcd bT scTo rfl (Or.inl rfl) (LamX.told_gives (CS := CS) (ret := "StoreError") (e := "StoreError") rfl m.X.gS (by decide) (fun _ => rfl))
      (pe_lambdaC (params := lArg lmY) (body := lBody lmY) (scope := lScope lmY) bm rfl rfl lmY_S) (fun J => ⟨_, J⟩) hr lmY_S (bindNo rfl) (fun A2 o2 s2 H2 E2 f2 c2 hr2 => ldY m hr2)) fun σ H Q h => ?_
  obtain ⟨tk, h⟩ := h
  refine ⟨by rw [show (deedCx P w K mg base f cm A outer s H0 E).env.qual ++ "<lambda>" = lamM from deedQ]; exact tk.m, fun G1 fl b1 s1 l1 => ?_⟩
  have w1 : Go T H G1 := but_m tk b1 (by rw [show lamM = (deedCx P w K mg base f cm A outer s H0 E).env.qual ++ "<lambda>" from deedQ.symm]; exact s1)
  obtain ⟨pm, c', ctv, q1, q2⟩ := l1
  exact ⟨fl, pm, c', ctv, rfl, q1, q2, q1, h G1 w1⟩
def lmM : Expr := toldLam (lastS (ifBody 8))
theorem lmM_S : LamX.LamS (defScope sDeed) (lScope lmM) := LamX.lamS_by (by decide +kernel)
theorem ldM {fp cm f c' : Addr} {Ao A : Around} {oo outer : List Env} {so s : Shared} {Ho H : Hp} {Eo E : XK} (m : Ms P w K mg base T C CP CG CS M) (hr : Room 24 (A.deeper (LamX.lamEnv (deedCx P w K mg base fp cm Ao oo so Ho Eo) (lScope lmM) s.heap.objs.size f c'))) :
    PE (LamX.lamCx (deedCx P w K mg base fp cm Ao oo so Ho Eo) A outer s H E (lScope lmM) f c') (lBody lmM) (tDo2 C (spMove C T CG CP) 5 6 E) := by
  refine L2.PE.weak (pe_meth (pv 1) m.L.cl m.mM m.GM (hr.mono (by decide)) m.bM .nil (passes_call (takes_of rfl rfl rfl rfl) (fun _ _ _ _ e => e)) (pa_cons (pv 5) (pa_cons (pv 6) pa_nil))) fun σ H Q h => ?_
  obtain ⟨s, v, v2, e1, sa, e5, e6, h⟩ := h
  obtain ⟨⟨dx, tp, er, ep⟩, _⟩ := id sa
  exact ⟨_, e1, s.r, dx, _, rfl, er, look_no (by decide +kernel), _, e5, _, e6, h⟩
theorem tdM {f cm fT : Addr} {A : Around} {outer : List Env} {s : Shared} {H0 : Hp} {E : XK} {dT : FuncData} {p1 p2 pos : Pos} (m : Ms P w K mg base T C CP CG CS M) (bm : LamX.TabB base mg cm T.m) (t : Tol K mg CS fT dT) (hr : Room 26 (deedCx P w K mg base f cm A outer s H0 E).A) :
    PE (deedCx P w K mg base f cm A outer s H0 E) (.Call (.Name "_law_told" p1) [.Lambda (lArg lmM) (lBody lmM) (lScope lmM) p2] [] pos) (tTd K T CS (tDo2 C (spMove C T CG CP) 5 6)) := by
  obtain ⟨oc, od, kV, doc, pm2, an, cdv, ct, osl, ed, lk, hcd⟩ := t.F.ex
  have bT := t.bT
  rw [ed] at bT lk
  refine L2.PE.weak (pe_hand (X := deedCx P w K mg base f cm A outer s H0 E) (k := 24) (params := lArg lmM) (body := lBody lmM) (scope := lScope lmM) (t := tDo2 C (spMove C T CG CP) 5 6) id rfl t.mT t.F.kp lk hcd bT scTo rfl (Or.inl rfl) (LamX.told_gives (CS := CS) (ret := "StoreError") (e := "StoreError") rfl m.X.gS (by decide) (fun _ => rfl))
      (pe_lambdaC (params := lArg lmM) (body := lBody lmM) (scope := lScope lmM) bm rfl rfl lmM_S) (fun J => ⟨_, J⟩) hr lmM_S (bindNo rfl) (fun A2 o2 s2 H2 E2 f2 c2 hr2 => ldM m hr2)) fun σ H Q h => ?_
  obtain ⟨tk, h⟩ := h
  refine ⟨by rw [show (deedCx P w K mg base f cm A outer s H0 E).env.qual ++ "<lambda>" = lamM from deedQ]; exact tk.m, fun G1 fl b1 s1 l1 => ?_⟩
  have w1 : Go T H G1 := but_m tk b1 (by rw [show lamM = (deedCx P w K mg base f cm A outer s H0 E).env.qual ++ "<lambda>" from deedQ.symm]; exact s1)
  obtain ⟨pm, c', ctv, q1, q2⟩ := l1
  exact ⟨fl, pm, c', ctv, rfl, q1, q2, q1, h G1 w1⟩
def lmT : Expr := toldLam (lastS (ifBody 10))
theorem lmT_S : LamX.LamS (defScope sDeed) (lScope lmT) := LamX.lamS_by (by decide +kernel)
theorem ldT {fp cm f c' : Addr} {Ao A : Around} {oo outer : List Env} {so s : Shared} {Ho H : Hp} {Eo E : XK} (m : Ms P w K mg base T C CP CG CS M) (hr : Room 24 (A.deeper (LamX.lamEnv (deedCx P w K mg base fp cm Ao oo so Ho Eo) (lScope lmT) s.heap.objs.size f c'))) :
    PE (LamX.lamCx (deedCx P w K mg base fp cm Ao oo so Ho Eo) A outer s H E (lScope lmT) f c') (lBody lmT) (tDo1 C (spMoveTo C T CG CP) 12 E) := by
  refine L2.PE.weak (pe_meth (pv 1) m.L.cl m.mT m.GT (hr.mono (by decide)) m.bT .nil (passes_call (takes_of rfl rfl rfl rfl) (fun _ _ _ _ e => e)) (pa_cons (pv 12) pa_nil)) fun σ H Q h => ?_
  obtain ⟨s, v, e1, sa, e12, h⟩ := h
  obtain ⟨⟨dx, tp, er, ep⟩, _⟩ := id sa
  exact ⟨_, e1, s.r, dx, _, rfl, er, look_no (by decide +kernel), _, e12, h⟩
theorem tdT {f cm fT : Addr} {A : Around} {outer : List Env} {s : Shared} {H0 : Hp} {E : XK} {dT : FuncData} {p1 p2 pos : Pos} (m : Ms P w K mg base T C CP CG CS M) (bm : LamX.TabB base mg cm T.m) (t : Tol K mg CS fT dT) (hr : Room 26 (deedCx P w K mg base f cm A outer s H0 E).A) :
    PE (deedCx P w K mg base f cm A outer s H0 E) (.Call (.Name "_law_told" p1) [.Lambda (lArg lmT) (lBody lmT) (lScope lmT) p2] [] pos) (tTd K T CS (tDo1 C (spMoveTo C T CG CP) 12)) := by
  obtain ⟨oc, od, kV, doc, pm2, an, cdv, ct, osl, ed, lk, hcd⟩ := t.F.ex
  have bT := t.bT
  rw [ed] at bT lk
  refine L2.PE.weak (pe_hand (X := deedCx P w K mg base f cm A outer s H0 E) (k := 24) (params := lArg lmT) (body := lBody lmT) (scope := lScope lmT) (t := tDo1 C (spMoveTo C T CG CP) 12) id rfl t.mT t.F.kp lk hcd bT scTo rfl (Or.inl rfl) (LamX.told_gives (CS := CS) (ret := "StoreError") (e := "StoreError") rfl m.X.gS (by decide) (fun _ => rfl))
      (pe_lambdaC (params := lArg lmT) (body := lBody lmT) (scope := lScope lmT) bm rfl rfl lmT_S) (fun J => ⟨_, J⟩) hr lmT_S (bindNo rfl) (fun A2 o2 s2 H2 E2 f2 c2 hr2 => ldT m hr2)) fun σ H Q h => ?_
  obtain ⟨tk, h⟩ := h
  refine ⟨by rw [show (deedCx P w K mg base f cm A outer s H0 E).env.qual ++ "<lambda>" = lamM from deedQ]; exact tk.m, fun G1 fl b1 s1 l1 => ?_⟩
  have w1 : Go T H G1 := but_m tk b1 (by rw [show lamM = (deedCx P w K mg base f cm A outer s H0 E).env.qual ++ "<lambda>" from deedQ.symm]; exact s1)
  obtain ⟨pm, c', ctv, q1, q2⟩ := l1
  exact ⟨fl, pm, c', ctv, rfl, q1, q2, q1, h G1 w1⟩
end
end Sg
end Text_S31
section Text_S32
set_option Elab.async false
set_option linter.all false
set_option maxRecDepth 100000
set_option maxHeartbeats 1000000
namespace Sg
open PySem PySem.Spec PyProof.Rows L2 Gx GxR LamY LamZ
/-! _law_deed: what its blocks share; the first one -/
structure LD where
  fW : Addr
  fL : Addr
  fM : Addr
  fO : Addr
  fR : Addr
  fT : Addr
  dW : FuncData
  dL : FuncData
  dM : FuncData
  dO : FuncData
  dR : FuncData
  dT : FuncData
/-- the law's helpers with their promises -/
structure La (P : Program) (w : World) (K : PySem.W.Frag) (mg : Str → Option Value) (base : Heap) (T : Tb) (CS : Addr) (N : LD) : Prop where
  GW : FnOk P w K mg base CX0 1 N.fW N.dW ["files", "path"] (spLWay T)
  mW : mg "_law_way" = some (.ref N.fW)
  kW : PySem.W.keepIn K (.ref N.fW) = true
  bW : Binds K N.dW ["files", "path"] []
  GL : FnOk P w K mg base CX0 1 N.fL N.dL ["files", "path"] (spLess T)
  mL : mg "_law_less" = some (.ref N.fL)
  kL : PySem.W.keepIn K (.ref N.fL) = true
  bL : Binds K N.dL ["files", "path"] []
  GM : FnOk P w K mg base CX0 1 N.fM N.dM ["files", "path", "text"] (spMore T)
  mM : mg "_law_more" = some (.ref N.fM)
  kM : PySem.W.keepIn K (.ref N.fM) = true
  bM : Binds K N.dM ["files", "path", "text"] []
  GO : FnOk P w K mg base CX0 1 N.fO N.dO ["path"] (spOut T)
  mO : mg "_law_out" = some (.ref N.fO)
  kO : PySem.W.keepIn K (.ref N.fO) = true
  bO : Binds K N.dO ["path"] []
  GR : FnOk P w K mg base CX0 1 N.fR N.dR ["dice", "many"] spRoll
  mR : mg "_law_roll" = some (.ref N.fR)
  kR : PySem.W.keepIn K (.ref N.fR) = true
  bR : Binds K N.dR ["dice", "many"] []
  t : Tol K mg CS N.fT N.dT
def nt (o : HO) : Prop := ∀ ps, o ≠ .tbl ps
/-- a step that writes over what stands in X, and the stage -/
def DStp (T : Tb) (X : List Addr) (H : Hp) (s : Sta) (H' : Hp) (s' : Sta) : Prop :=
  (∀ b o, H b = some o → nt o → b ∉ s.ad → (∃ o', H' b = some o' ∧ nt o' ∧ (b ∉ X → o' = o)) ∧ b ∉ s'.ad) ∧ ExtT H H' ∧ TOk T H' ∧ s'.r = s.r
theorem DStp.trans {T : Tb} {X : List Addr} {H H1 H2 : Hp} {s s1 s2 : Sta} (a : DStp T X H s H1 s1) (b : DStp T X H1 s1 H2 s2) : DStp T X H s H2 s2 := by
  refine ⟨fun c o e n m => ?_, a.2.1.trans b.2.1, b.2.2.1, b.2.2.2.trans a.2.2.2⟩
  obtain ⟨⟨o1, e1, n1, k1⟩, m1⟩ := a.1 c o e n m
  obtain ⟨⟨o2, e2, n2, k2⟩, m2⟩ := b.1 c o1 e1 n1 m1
  exact ⟨⟨o2, e2, n2, fun hx => (k2 hx).trans (k1 hx)⟩, m2⟩
theorem DStp.go {T : Tb} {X : List Addr} {H H' : Hp} {s : Sta} (g : Go T H H') : DStp T X H s H' s := ⟨fun b o e n m => ⟨⟨o, g.1 b o e n (.inl (by simp)), n, fun _ => rfl⟩, m⟩, g.t, g.2, rfl⟩
theorem DStp.stp {T : Tb} {X : List Addr} {H H' : Hp} {s s' : Sta} (g : Stp T H s H' s') (e : s'.r = s.r := by rfl) : DStp T X H s H' s' := ⟨fun b o e n m => ⟨⟨o, (g.1 b o e n m).1, n, fun _ => rfl⟩, (g.1 b o e n m).2⟩, g.2.1, g.2.2, e⟩
theorem DStp.set {T : Tb} {X : List Addr} {H : Hp} {s : Sta} {ow : Addr} {kv kv' : List (Key × V)} (tk : TOk T H) (e : H ow = some (.dK kv)) (hX : ow ∈ X) : DStp T X H s (upd H ow (.dK kv')) s := by
  have g : GoE T [ow] H (upd H ow (.dK kv')) := go_set tk e mu_dK (by simp)
  refine ⟨fun b o eb n m => ⟨?_, m⟩, g.t, g.2, rfl⟩
  by_cases z : b = ow
  · exact ⟨_, by rw [z]; exact upd_same, (by intro _ q; cases q), fun hx => absurd (by rw [z]; exact hX) hx⟩
  · exact ⟨o, g.at eb (by simpa using z) n, n, fun _ => rfl⟩
/-- the law's own dict of tables -/
def odK (l t k : Addr) : List (Key × V) := [(Sum.inr "last", .ref l), (Sum.inr "staged", .ref t), (Sum.inr "work", .ref k)]
theorem od_w (l t k k' : Addr) : putK (odK l t k) (Sum.inr "work") (.ref k') = odK l t k' := by
  unfold odK
  rfl
theorem od_s (l t k k' : Addr) : putK (odK l t k) (Sum.inr "staged") (.ref k') = odK l k' k := by
  unfold odK
  rfl
theorem od_l (l t k k' : Addr) : putK (odK l t k) (Sum.inr "last") (.ref k') = odK k' t k := by
  unfold odK
  rfl
theorem od_gw (l t k : Addr) : valV (odK l t k) (Sum.inr "work") = some (.ref k) := by
  unfold odK
  rfl
theorem od_gs (l t k : Addr) : valV (odK l t k) (Sum.inr "staged") = some (.ref t) := by
  unfold odK
  rfl
theorem od_gl (l t k : Addr) : valV (odK l t k) (Sum.inr "last") = some (.ref l) := by
  unfold odK
  rfl
structure OwnD (H : Hp) (ow l t k : Addr) (L S W : Files) : Prop where
  e : H ow = some (.dK (odK l t k))
  el : H l = some (.dK (fk L))
  et : H t = some (.dK (fk S))
  ek : H k = some (.dK (fk W))
  nl : ow ≠ l
  nt : ow ≠ t
  nk : ow ≠ k
theorem OwnD.go {T : Tb} {H H' : Hp} {ow l t k : Addr} {L S W : Files} (o : OwnD H ow l t k L S W) (g : Go T H H') : OwnD H' ow l t k L S W := ⟨g.at o.e, g.at o.el, g.at o.et, g.at o.ek, o.nl, o.nt, o.nk⟩
theorem OwnD.stp {T : Tb} {H H' : Hp} {s s' : Sta} {ow l t k : Addr} {L S W : Files} (o : OwnD H ow l t k L S W) (g : Stp T H s H' s') (off : ∀ b ∈ [ow, l, t, k], b ∉ s.ad) : OwnD H' ow l t k L S W ∧ ∀ b ∈ [ow, l, t, k], b ∉ s'.ad := by
  have q := fun b u (e : H b = some (.dK u)) m => g.1 b _ e (by intro _ z; cases z) (off b m)
  obtain ⟨a1, a2⟩ := q _ _ o.e (by simp)
  obtain ⟨b1, b2⟩ := q _ _ o.el (by simp)
  obtain ⟨c1, c2⟩ := q _ _ o.et (by simp)
  obtain ⟨d1, d2⟩ := q _ _ o.ek (by simp)
  refine ⟨⟨a1, b1, c1, d1, o.nl, o.nt, o.nk⟩, fun b hb => ?_⟩
  simp only [List.mem_cons, List.not_mem_nil, or_false] at hb
  rcases hb with rfl | rfl | rfl | rfl
  · exact a2
  · exact b2
  · exact c2
  · exact d2
theorem OwnD.set {H : Hp} {ow l t k l' t' k' : Addr} {L S W L' S' W' : Files} (o : OwnD H ow l t k L S W) (a : H l' = some (.dK (fk L'))) (b : H t' = some (.dK (fk S'))) (c : H k' = some (.dK (fk W'))) (n1 : ow ≠ l') (n2 : ow ≠ t') (n3 : ow ≠ k') :
    OwnD (upd H ow (.dK (odK l' t' k'))) ow l' t' k' L' S' W' := ⟨upd_same, by rw [upd_ne (Ne.symm n1)]; exact a, by rw [upd_ne (Ne.symm n2)]; exact b, by rw [upd_ne (Ne.symm n3)]; exact c, n1, n2, n3⟩
/-- how a deed finds things -/
structure D8 (C : Addr) (T : Tb) (H : Hp) (s : Sta) (ow l t k : Addr) : Prop where
  sa : SAt C H s
  iv : Inv8 s
  od : OwnD H ow l t k s.L s.S s.W
  off : ∀ b ∈ [ow, l, t, k], b ∉ s.ad
  tk : TOk T H
theorem D8.go {C : Addr} {T : Tb} {H H' : Hp} {s : Sta} {ow l t k : Addr} (a : D8 C T H s ow l t k) (g : Go T H H') : D8 C T H' s ow l t k := ⟨a.sa.go g, a.iv, a.od.go g, a.off, g.2⟩
/-- and how it leaves them -/
def Out8 (C : Addr) (T : Tb) (H : Hp) (s : Sta) (ow : Addr) (Q : Hp → Prop) : Prop := ∀ H' s' l' t' k', DStp T [ow] H s H' s' → D8 C T H' s' ow l' t' k' → Q H'
theorem off3 {C : Addr} {T : Tb} {H : Hp} {s : Sta} {ow l t k d : Addr} (a : D8 C T H s ow l t k) (f : Fresh H d) : d ∉ s.ad ∧ ow ≠ d := by
  refine ⟨a.sa.off f, fun z => ?_⟩
  obtain ⟨ps, e⟩ := f _ (by rw [← z]; exact a.od.e)
  cases e
abbrev σD (d r ow pa : Addr) (so : Int) (p q z : Str) (k t l : Addr) (g : Option V) : L2.St := [some (.ref d), some (.ref r), some (.ref ow), some (.ref pa), some (.int so), some (.str p), some (.str q), some (.str z), some (.ref k), some (.ref t), some (.ref l), g, none, none, none, none, none, none]
/-- the paths and texts that a deed draws -/
def PD : List Str := ["a", "a/b", "k.o", "x.o", "t", "t/c", "d", "", "d/e"]
theorem pd_ok : ∀ p ∈ PD, (p ∈ PTH ∨ p = "") ∧ lokB p = true ∧ p ≠ "g" := by decide +kernel
structure Dr (p q z : Str) : Prop where
  p : p ∈ PD
  q : q ∈ PD
  z : z ∈ TXT
theorem lok100 {p : Str} (h : lokB p = true) : p.cps.toList.length ≤ 100 := (lok_of h).1
theorem fsm_put {A : Files} (t : Tok A) {p z : Str} (hp : p ∈ PTH ∨ p = "") : fsm (fPut A p z) := by
  have h1 := fPut_len A p z
  have h2 := t.fok.n
  refine ⟨by omega, fun x hx => ?_⟩
  rcases mem_put.mp hx with h | rfl
  · exact lok100 (pth_ok x (t.key h)).1
  · rcases hp with h | rfl
    · exact lok100 (pth_ok _ h).1
    · decide +kernel
end Sg
end Text_S32
section Text_S33
set_option Elab.async false
set_option linter.all false
set_option maxRecDepth 100000
set_option maxHeartbeats 1000000
namespace Sg
open PySem PySem.Spec PyProof.Rows L2 Gx GxR LamY LamZ
/-- while a deed is done -/
structure M8 (C : Addr) (T : Tb) (H : Hp) (s : Sta) (ow l t k : Addr) (L S W : Files) : Prop where
  sa : SAt C H s
  od : OwnD H ow l t k L S W
  off : ∀ b ∈ [ow, l, t, k], b ∉ s.ad
  tk : TOk T H
theorem D8.m {C : Addr} {T : Tb} {H : Hp} {s : Sta} {ow l t k : Addr} (a : D8 C T H s ow l t k) : M8 C T H s ow l t k s.L s.S s.W := ⟨a.sa, a.od, a.off, a.tk⟩
theorem M8.d {C : Addr} {T : Tb} {H : Hp} {s : Sta} {ow l t k : Addr} (a : M8 C T H s ow l t k s.L s.S s.W) (iv : Inv8 s) : D8 C T H s ow l t k := ⟨a.sa, iv, a.od, a.off, a.tk⟩
theorem M8.go {C : Addr} {T : Tb} {H H' : Hp} {s : Sta} {ow l t k : Addr} {L S W : Files} (a : M8 C T H s ow l t k L S W) (g : Go T H H') : M8 C T H' s ow l t k L S W := ⟨a.sa.go g, a.od.go g, a.off, g.2⟩
theorem M8.set {C : Addr} {T : Tb} {H : Hp} {s : Sta} {ow l t k l' t' k' : Addr} {L S W L' S' W' : Files} (a : M8 C T H s ow l t k L S W) (e1 : H l' = some (.dK (fk L'))) (e2 : H t' = some (.dK (fk S'))) (e3 : H k' = some (.dK (fk W'))) (n1 : l' ∉ s.ad ∧ ow ≠ l') (n2 : t' ∉ s.ad ∧ ow ≠ t') (n3 : k' ∉ s.ad ∧ ow ≠ k') :
    M8 C T (upd H ow (.dK (odK l' t' k'))) s ow l' t' k' L' S' W' ∧ DStp T [ow] H s (upd H ow (.dK (odK l' t' k'))) s := by
  have st : DStp T [ow] H s (upd H ow (.dK (odK l' t' k'))) s := DStp.set a.tk a.od.e (by simp)
  have g : GoE T [ow] H (upd H ow (.dK (odK l' t' k'))) := go_set a.tk a.od.e mu_dK (by simp)
  have ho := a.off ow (by simp)
  refine ⟨⟨a.sa.ext g fun b hb z => ?_, a.od.set e1 e2 e3 n1.2 n2.2 n3.2, fun b hb => ?_, g.2⟩, st⟩
  · rw [List.mem_singleton.mp z] at hb
    exact ho hb
  · simp only [List.mem_cons, List.not_mem_nil, or_false] at hb
    rcases hb with rfl | rfl | rfl | rfl
    · exact ho
    · exact n1.1
    · exact n2.1
    · exact n3.1
theorem M8.stp {C : Addr} {T : Tb} {H H' : Hp} {s s' : Sta} {ow l t k : Addr} {L S W : Files} (a : M8 C T H s ow l t k L S W) (g : Stp T H s H' s') (sa : SAt C H' s') : M8 C T H' s' ow l t k L S W := by
  obtain ⟨o, f⟩ := a.od.stp g a.off
  exact ⟨sa, o, f, g.2.2⟩
theorem M8.l3 {C : Addr} {T : Tb} {H : Hp} {s : Sta} {ow l t k : Addr} {L S W : Files} (a : M8 C T H s ow l t k L S W) : (l ∉ s.ad ∧ ow ≠ l) ∧ (t ∉ s.ad ∧ ow ≠ t) ∧ (k ∉ s.ad ∧ ow ≠ k) := ⟨⟨a.off l (by simp), a.od.nl⟩, ⟨a.off t (by simp), a.od.nt⟩, ⟨a.off k (by simp), a.od.nk⟩⟩
theorem M8.fresh {C : Addr} {T : Tb} {H : Hp} {s : Sta} {ow l t k d : Addr} {L S W : Files} (a : M8 C T H s ow l t k L S W) (f : Fresh H d) : d ∉ s.ad ∧ ow ≠ d := by
  refine ⟨a.sa.off f, fun z => ?_⟩
  obtain ⟨ps, e⟩ := f _ (by rw [← z]; exact a.od.e)
  cases e
section
variable {P : Program} {w : World} {K : PySem.W.Frag} {mg : Str → Option Value} {base : Heap} {T : Tb} {C CP CG CS : Addr} {M : MD} {N : LD}
variable {f cm : Addr} {A : Around} {outer : List Env} {s0 : Shared} {H0 : Hp} {E : XK}
theorem blk3b (m : Ms P w K mg base T C CP CG CS M) (l : La P w K mg base T CS N) (bm : LamX.TabB base mg cm T.m) (hr : Room 26 (A.deeper (envOfC "_law_deed" (defScope sDeed) s0.heap.objs.size f (.ref cm)))) :
    ∃ t, PSs (deedCx P w K mg base f cm A outer s0 H0 E) ((ifBody 3).drop 1) t ∧ ∀ (D : Ends) (d ow pa la st wk : Addr) (so : Int) (p q z : Str) (H : Hp) (s : Sta), D8 C T H s ow la st wk → Dr p q z →
      Out8 C T H s ow (D.rt (.bl true)) → t D (σD d s.r ow pa so p q z wk st la (some (.bl (!badF (fPut s.W p z))))) H := by
  have hu := hu_of hr
  refine ⟨_, pss_cons (ps_dput hu (pv 2) pe_str (pe_ifExp (pt_val (pv 11)) (pe_call l.GM (hr.mono (by decide)) rfl l.mM l.kM l.bM .nil pass0 (pa_cons (pv 8) (pa_cons (pv 5) (pa_cons (pv 7) pa_nil)))) (pv 8)) rfl)
      (pss_one (ps_ret (pe_cmpR op_eq (pe_cmpR op_ne (tdW m bm l.t hr) pe_str (nomark _)) (pv 11) (nomark _)))), fun D d ow pa la st wk so p q z H s a dr kr => ?_⟩
  obtain ⟨pp, pl, _⟩ := pd_ok p dr.p
  have bp := bad_put a.iv.tw a.iv.fw (z := z) pp
  have sm := fsm_put a.iv.tw (z := z) pp
  obtain ⟨n1, n2, n3⟩ := a.m.l3
  cases hb : badF (fPut s.W p z) with
  | true =>
    refine ⟨_, rfl, _, rfl, iteF ⟨_, rfl, _, rfl, ow, _, rfl, DPut.k (k := Sum.inr "work") a.od.e (by show 3 < sizeLine; decide), ?_⟩⟩
    rw [od_w]
    obtain ⟨a1, st1⟩ := a.m.set a.od.el a.od.et a.od.ek n1 n2 n3
    refine ⟨a1.tk, fun G w1 => ⟨s, .str p, .str z, rfl, a1.sa.go w1, rfl, rfl, s, p, z, rfl, a1.sa.go w1, sm, w1.2, fun _ H' g => ec_P m.X ⟨rfl, _, rfl, rfl, ?_⟩, fun z => absurd z (by rw [hb]; decide)⟩⟩
    exact kr H' s la st wk ((st1.trans (DStp.go w1)).trans (DStp.go g)) (((a1.go w1).go g).d a.iv)
  | false =>
    rw [hb] at bp
    have bp := (Bool.or_eq_false_iff.mp bp.symm)
    have hp : p ∈ PTH := pp.resolve_right (of_decide_eq_false bp.1)
    refine ⟨_, rfl, _, rfl, iteT ⟨_, rfl, _, rfl, _, rfl, wk, p, z, s.W, rfl, a.od.ek, a.iv.tw.nd, by have := a.iv.tw.fok.n; omega, a.tk, fun G k2 g f2 e2 => ⟨_, rfl, ow, _, rfl, DPut.k (k := Sum.inr "work") (g.at a.od.e) (by show 3 < sizeLine; decide), ?_⟩⟩⟩
    rw [od_w]
    obtain ⟨a1, st1⟩ := (a.m.go g).set (g.at a.od.el) (g.at a.od.et) e2 n1 n2 (a.m.fresh f2)
    refine ⟨a1.tk, fun G w1 => ⟨s, .str p, .str z, rfl, a1.sa.go w1, rfl, rfl, s, p, z, rfl, a1.sa.go w1, sm, w1.2, fun z => absurd z (by rw [hb]; decide), fun _ H' dw st2 sa2 => ⟨rfl, _, rfl, rfl, ?_⟩⟩⟩
    refine kr H' { s with dw := dw, W := fPut s.W p z } la st k2 ((((DStp.go g).trans st1).trans (DStp.go w1)).trans (DStp.stp st2)) (M8.d ((a1.go w1).stp st2 sa2) ?_)
    exact ⟨a.iv.tl, a.iv.ts, a.iv.tw.put hp dr.z, a.iv.fs, a.iv.fw.put bp.2, a.iv.pp⟩
end
end Sg
end Text_S33
section Text_S34
set_option Elab.async false
set_option linter.all false
set_option maxRecDepth 100000
set_option maxHeartbeats 1000000
namespace Sg
open PySem PySem.Spec PyProof.Rows L2 Gx GxR LamY LamZ
theorem strD {x y : Str} : (!decide (V.str x = V.str y)) = !decide (x = y) := by
  rw [show decide (V.str x = V.str y) = decide (x = y) from decide_eq_decide.mpr ⟨V.str.inj, congrArg _⟩]
theorem Out8.go {C : Addr} {T : Tb} {H G : Hp} {s : Sta} {ow : Addr} {Q : Hp → Prop} (h : Out8 C T H s ow Q) (g : Go T H G) : Out8 C T G s ow Q := fun H' s' l t k st d => h H' s' l t k ((DStp.go g).trans st) d
section
variable {P : Program} {w : World} {K : PySem.W.Frag} {mg : Str → Option Value} {base : Heap} {T : Tb} {C CP CG CS : Addr} {M : MD} {N : LD}
variable {f cm : Addr} {A : Around} {outer : List Env} {s0 : Shared} {H0 : Hp} {E : XK}
/-- if sort < 6: .. write -/
theorem blk3 (m : Ms P w K mg base T C CP CG CS M) (l : La P w K mg base T CS N) (bm : LamX.TabB base mg cm T.m) (hr : Room 26 (A.deeper (envOfC "_law_deed" (defScope sDeed) s0.heap.objs.size f (.ref cm)))) :
    ∃ t, PS (deedCx P w K mg base f cm A outer s0 H0 E) (deedB.getD 3 noS) t ∧ ∀ (D : Ends) (d ow pa la st wk : Addr) (so : Int) (p q z : Str) (H : Hp) (s : Sta), D8 C T H s ow la st wk → Dr p q z →
      D.nx (σD d s.r ow pa so p q z wk st la none) H → Out8 C T H s ow (D.rt (.bl true)) → t D (σD d s.r ow pa so p q z wk st la none) H := by
  have hu := hu_of hr
  obtain ⟨t2, h2, k2⟩ := blk3b (f := f) (cm := cm) (A := A) (outer := outer) (s0 := s0) (H0 := H0) (E := E) m l bm hr
  refine ⟨_, ps_if (pt_cmpR op_lt (pv 4) pe_int (nomark _))
      (pss_cons (ps_set (i := 11) scD.nd rfl (Or.inl rfl) (pe_and (pe_cmpR op_ne (pv 5) pe_str (nomark _)) (pe_one (pe_not (pe_call l.GW (hr.mono (by decide)) rfl l.mW l.kW l.bW .nil pass0 (pa_cons (pe_call l.GL (hr.mono (by decide)) rfl l.mL l.kL l.bL .nil pass0 (pa_cons (pv 8) (pa_cons (pv 5) pa_nil))) (pa_cons (pv 5) pa_nil)))))))
      h2) pss_nil, fun D d ow pa la st wk so p q z H s a dr kn kr => ?_⟩
  refine ⟨_, rfl, _, _, rfl, rfl, _, rfl, ite2 (fun e => ?_) (fun e => kn)⟩
  obtain ⟨pp, pl, _⟩ := pd_ok p dr.p
  have bp := bad_put a.iv.tw a.iv.fw (z := z) pp
  refine ⟨_, rfl, rfl, _, rfl, ?_⟩
  rw [strD]
  by_cases hp : p = ""
  · have hb : badF (fPut s.W p z) = true := by rw [bp, decide_eq_true hp]; rfl
    refine (if_neg (by rw [decide_eq_true hp]; decide)).mpr ?_
    have := k2 D d ow pa la st wk so p q z H s a dr kr
    rw [hb] at this
    exact this
  · refine (if_pos (by rw [decide_eq_false hp]; rfl)).mpr ⟨_, rfl, _, rfl, wk, p, s.W, rfl, a.od.ek, a.iv.tw.nd, by have := a.iv.tw.fok.n; omega, a.tk, fun G dd g f2 e2 => ⟨_, rfl, dd, p, fDrop s.W p, rfl, .inl e2, (a.iv.tw.drop p).fok.str, lok100 pl, g.2, fun G2 g2 => ⟨_, rfl, ?_⟩⟩⟩
    rw [decide_eq_false hp, Bool.false_or] at bp
    show t2 D (σD d s.r ow pa so p q z wk st la (some (.bl (!way (fDrop s.W p) p)))) G2
    rw [← bp]
    exact k2 D d ow pa la st wk so p q z G2 s ((a.go g).go g2) dr (kr.go (g.trans g2))
end
end Sg
end Text_S34
section Text_S35
set_option Elab.async false
set_option linter.all false
set_option maxRecDepth 100000
set_option maxHeartbeats 1000000
namespace Sg
open PySem PySem.Spec PyProof.Rows L2 Gx GxR LamY LamZ
theorem fDrop_none {A : Files} {p : Str} (h : lk A p = none) : fDrop A p = A := by
  unfold fDrop
  rw [List.filter_eq_self]
  intro q hq
  simpa using lk_none h q hq
theorem lk_pd {A : Files} (t : Tok A) {p : Str} (h : (lk A p).isSome = true) : p ∈ PTH := t.key ((lk_iff A p).mp h)
theorem setOf_ok {S A : Files} {p : Str} {S' : Files} (ts : Tok S) (ta : Tok A) (fs : wayFree S) (h : setOf S A p = some S') : Tok S' ∧ wayFree S' := by
  unfold setOf at h
  cases e : lk A p with
  | none =>
    rw [e] at h
    obtain rfl := Option.some.inj h
    exact ⟨ts.drop p, fs.drop p⟩
  | some z =>
    rw [e] at h
    dsimp only at h
    cases hw : way S p with
    | true => rw [hw, if_pos rfl] at h; cases h
    | false =>
      rw [hw, if_neg Bool.false_ne_true] at h
      obtain rfl := Option.some.inj h
      exact ⟨ts.put (ta.pth e) (ta.txt e), fs.put (way_drop hw p)⟩
/-- good, when a deed stages: path in A, in S -/
def goodS (S A : Files) (p : Str) (b : Bool) : Bool := ((lk A p).isSome || (lk S p).isSome) && b && (!(lk A p).isSome || !way S p)
theorem addR_good {s : Sta} {p : Str} : (addR s p).isSome = goodS s.S s.W p ((lk s.S p).isSome || !leftOut s.P p) := by
  unfold addR goodS setOf
  cases eW : lk s.W p <;> cases eS : lk s.S p <;> cases eO : leftOut s.P p <;> cases ey : way s.S p <;> simp
theorem resetR_good {s : Sta} {p : Str} : (resetR s p).isSome = goodS s.S s.L p true := by
  unfold resetR goodS setOf
  cases eW : lk s.L p <;> cases eS : lk s.S p <;> cases ey : way s.S p <;> simp
theorem addR_some {s : Sta} {p : Str} {S' : Files} (h : addR s p = some S') : setOf s.S s.W p = some S' := by
  unfold addR at h
  split at h
  · cases h
  · split at h
    · cases h
    · exact h
theorem resetR_some {s : Sta} {p : Str} {S' : Files} (h : resetR s p = some S') : setOf s.S s.L p = some S' := by
  unfold resetR at h
  split at h
  · cases h
  · exact h
section
variable {P : Program} {w : World} {K : PySem.W.Frag} {mg : Str → Option Value} {base : Heap} {T : Tb} {C CP CG CS : Addr} {M : MD} {N : LD}
variable {f cm : Addr} {A : Around} {outer : List Env} {s0 : Shared} {H0 : Hp} {E : XK}
/-- if sort == 6: .. erase -/
theorem blk4 (m : Ms P w K mg base T C CP CG CS M) (l : La P w K mg base T CS N) (bm : LamX.TabB base mg cm T.m) (hr : Room 26 (A.deeper (envOfC "_law_deed" (defScope sDeed) s0.heap.objs.size f (.ref cm)))) :
    ∃ t, PS (deedCx P w K mg base f cm A outer s0 H0 E) (deedB.getD 4 noS) t ∧ ∀ (D : Ends) (d ow pa la st wk : Addr) (so : Int) (p q z : Str) (H : Hp) (s : Sta), D8 C T H s ow la st wk → Dr p q z →
      D.nx (σD d s.r ow pa so p q z wk st la none) H → Out8 C T H s ow (D.rt (.bl true)) → t D (σD d s.r ow pa so p q z wk st la none) H := by
  have hu := hu_of hr
  refine ⟨_, ps_if (pt_cmpR op_eq (pv 4) pe_int (nomark _))
      (pss_cons (ps_dput hu (pv 2) pe_str (pe_call l.GL (hr.mono (by decide)) rfl l.mL l.kL l.bL .nil pass0 (pa_cons (pv 8) (pa_cons (pv 5) pa_nil))) rfl)
      (pss_one (ps_ret (pe_cmpR op_eq (pe_cmpR op_ne (tdE m bm l.t hr) pe_str (nomark _)) (pe_cmp (pc_din hu (pv 5) (pv 8)) rfl) (nomark _))))) pss_nil, fun D d ow pa la st wk so p q z H s a dr kn kr => ?_⟩
  refine ⟨_, rfl, rfl, _, rfl, ite2 (fun e => ?_) (fun e => kn)⟩
  obtain ⟨pp, pl, _⟩ := pd_ok p dr.p
  obtain ⟨n1, n2, n3⟩ := a.m.l3
  refine ⟨_, rfl, _, rfl, wk, p, s.W, rfl, a.od.ek, a.iv.tw.nd, by have := a.iv.tw.fok.n; omega, a.tk, fun G k2 g0 f2 e2 => ⟨_, rfl, ow, _, rfl, DPut.k (k := Sum.inr "work") (g0.at a.od.e) (by show 3 < sizeLine; decide), ?_⟩⟩
  rw [od_w]
  obtain ⟨a1, st1⟩ := (a.m.go g0).set (g0.at a.od.el) (g0.at a.od.et) e2 n1 n2 (a.m.fresh f2)
  have ek1 : upd G ow (.dK (odK la st k2)) wk = some (.dK (fk s.W)) := by rw [upd_ne (Ne.symm a.od.nk)]; exact g0.at a.od.ek
  refine ⟨a1.tk, fun G1 w1 => ⟨s, .str p, rfl, a1.sa.go w1, rfl, s, p, rfl, a1.sa.go w1, w1.2, fun hb H' g => ec_G m.X ⟨rfl, _, rfl, _, rfl, wk, _, rfl, DAt.get (.inl (g.at (w1.at ek1))) p, rfl, ?_⟩, fun hb H' st2 sa2 => ⟨rfl, _, rfl, _, rfl, wk, _, rfl, DAt.get (.inl (st2.1 wk _ (w1.at ek1) (by intro _ z; cases z) n3.1).1) p, rfl, ?_⟩⟩⟩
  · have hn : lk s.W p = none := by
      cases e : lk s.W p with
      | none => rfl
      | some x => rw [e] at hb; cases hb
    rw [hn]
    rw [fDrop_none hn] at a1
    exact kr H' s la st k2 ((((DStp.go g0).trans st1).trans (DStp.go w1)).trans (DStp.go g)) (((a1.go w1).go g).d a.iv)
  · rw [Option.isSome_map, hb]
    exact kr H' { s with W := fDrop s.W p } la st k2 ((((DStp.go g0).trans st1).trans (DStp.go w1)).trans (DStp.stp st2)) (M8.d ((a1.go w1).stp st2 sa2) ⟨a.iv.tl, a.iv.ts, a.iv.tw.drop p, a.iv.fs, a.iv.fw.drop p, a.iv.pp⟩)
end
end Sg
end Text_S35
section Text_S36
set_option Elab.async false
set_option linter.all false
set_option maxRecDepth 100000
set_option maxHeartbeats 1000000
namespace Sg
open PySem PySem.Spec PyProof.Rows L2 Gx GxR LamY LamZ
section
variable {P : Program} {w : World} {K : PySem.W.Frag} {mg : Str → Option Value} {base : Heap} {T : Tb} {C CP CG CS : Addr} {M : MD} {N : LD}
variable {f cm : Addr} {A : Around} {outer : List Env} {s0 : Shared} {H0 : Hp} {E : XK}
theorem blk5b (m : Ms P w K mg base T C CP CG CS M) (l : La P w K mg base T CS N) (bm : LamX.TabB base mg cm T.m) (hr : Room 26 (A.deeper (envOfC "_law_deed" (defScope sDeed) s0.heap.objs.size f (.ref cm)))) :
    ∃ t, PSs (deedCx P w K mg base f cm A outer s0 H0 E) ((ifBody 5).drop 1) t ∧ ∀ (D : Ends) (d ow pa la st wk : Addr) (so : Int) (p q z : Str) (H : Hp) (s : Sta), D8 C T H s ow la st wk → Dr p q z →
      Out8 C T H s ow (D.rt (.bl true)) → t D (σD d s.r ow pa so p q z wk st la (some (.bl (addR s p).isSome))) H := by
  have hu := hu_of hr
  refine ⟨_, pss_cons (ps_if (pt_val (pv 11)) (pss_one (ps_dput hu (pv 2) pe_str (pe_ifExp (pt_cmp (pc_din hu (pv 5) (pv 8))) (pe_call l.GM (hr.mono (by decide)) rfl l.mM l.kM l.bM .nil pass0 (pa_cons (pv 9) (pa_cons (pv 5) (pa_cons (pe_dget hu (pv 8) (pv 5) (fun _ _ => rfl)) pa_nil)))) (pe_call l.GL (hr.mono (by decide)) rfl l.mL l.kL l.bL .nil pass0 (pa_cons (pv 9) (pa_cons (pv 5) pa_nil)))) rfl)) pss_nil)
      (pss_one (ps_ret (pe_cmpR op_eq (pe_cmpR op_ne (tdA m bm l.t hr) pe_str (nomark _)) (pv 11) (nomark _)))), fun D d ow pa la st wk so p q z H s a dr kr => ?_⟩
  obtain ⟨pp, pl, _⟩ := pd_ok p dr.p
  obtain ⟨n1, n2, n3⟩ := a.m.l3
  have ln : s.S.length ≤ 1000 := by have := a.iv.ts.fok.n; omega
  cases hb : addR s p with
  | none =>
    refine ⟨_, rfl, _, rfl, iteF ⟨a.tk, fun G w1 => ⟨s, .str p, rfl, a.sa.go w1, rfl, s, p, rfl, a.sa.go w1, a.iv.ts.fok.sm, (lok_of pl), (by rw [a.iv.pp]; exact pats_ok), w1.2, fun _ H' g => ec_G m.X ⟨rfl, _, rfl, rfl, ?_⟩, fun S' e => (by rw [hb] at e; cases e)⟩⟩⟩
    exact kr H' s la st wk ((DStp.go w1).trans (DStp.go g)) ((a.go w1).go g)
  | some S' =>
    have so := addR_some hb
    refine ⟨_, rfl, _, rfl, iteT ⟨_, rfl, _, rfl, wk, _, rfl, DAt.get (.inl a.od.ek) p, _, rfl, ?_⟩⟩
    unfold setOf at so
    cases eW : lk s.W p with
    | none =>
      rw [eW] at so
      have so := Option.some.inj so
      refine iteF ⟨_, rfl, _, rfl, st, p, s.S, rfl, a.od.et, a.iv.ts.nd, ln, a.tk, fun G k2 g0 f2 e2 => ⟨_, rfl, ow, _, rfl, DPut.k (k := Sum.inr "staged") (g0.at a.od.e) (by show 3 < sizeLine; decide), ?_⟩⟩
      rw [so] at e2
      rw [od_s]
      obtain ⟨a1, st1⟩ := (a.m.go g0).set (g0.at a.od.el) e2 (g0.at a.od.ek) n1 (a.m.fresh f2) n3
      refine ⟨a1.tk, fun G w1 => ⟨s, .str p, rfl, a1.sa.go w1, rfl, s, p, rfl, a1.sa.go w1, a.iv.ts.fok.sm, (lok_of pl), (by rw [a.iv.pp]; exact pats_ok), w1.2, fun z => (by rw [hb] at z; cases z), fun S2 eS H' st2 sa2 => ⟨rfl, _, rfl, rfl, ?_⟩⟩⟩
      rw [hb] at eS
      obtain rfl := Option.some.inj eS
      obtain ⟨q1, q2⟩ := setOf_ok a.iv.ts a.iv.tw a.iv.fs (addR_some hb)
      exact kr H' { s with S := S' } la k2 wk ((((DStp.go g0).trans st1).trans (DStp.go w1)).trans (DStp.stp st2)) (M8.d ((a1.go w1).stp st2 sa2) ⟨a.iv.tl, q1, a.iv.tw, q2, a.iv.fw, a.iv.pp⟩)
    | some x =>
      rw [eW] at so
      dsimp only at so
      cases ey : way s.S p with
      | true => rw [ey, if_pos rfl] at so; cases so
      | false =>
      rw [ey, if_neg Bool.false_ne_true] at so
      have so := Option.some.inj so
      have dg := DAt.get (.inl a.od.ek) p
      rw [eW] at dg
      refine iteT ⟨_, rfl, _, rfl, _, rfl, _, rfl, wk, _, rfl, dg, st, p, x, s.S, rfl, a.od.et, a.iv.ts.nd, ln, a.tk, fun G k2 g0 f2 e2 => ⟨_, rfl, ow, _, rfl, DPut.k (k := Sum.inr "staged") (g0.at a.od.e) (by show 3 < sizeLine; decide), ?_⟩⟩
      rw [so] at e2
      rw [od_s]
      obtain ⟨a1, st1⟩ := (a.m.go g0).set (g0.at a.od.el) e2 (g0.at a.od.ek) n1 (a.m.fresh f2) n3
      refine ⟨a1.tk, fun G w1 => ⟨s, .str p, rfl, a1.sa.go w1, rfl, s, p, rfl, a1.sa.go w1, a.iv.ts.fok.sm, (lok_of pl), (by rw [a.iv.pp]; exact pats_ok), w1.2, fun z => (by rw [hb] at z; cases z), fun S2 eS H' st2 sa2 => ⟨rfl, _, rfl, rfl, ?_⟩⟩⟩
      rw [hb] at eS
      obtain rfl := Option.some.inj eS
      obtain ⟨q1, q2⟩ := setOf_ok a.iv.ts a.iv.tw a.iv.fs (addR_some hb)
      exact kr H' { s with S := S' } la k2 wk ((((DStp.go g0).trans st1).trans (DStp.go w1)).trans (DStp.stp st2)) (M8.d ((a1.go w1).stp st2 sa2) ⟨a.iv.tl, q1, a.iv.tw, q2, a.iv.fw, a.iv.pp⟩)
theorem blk6b (m : Ms P w K mg base T C CP CG CS M) (l : La P w K mg base T CS N) (bm : LamX.TabB base mg cm T.m) (hr : Room 26 (A.deeper (envOfC "_law_deed" (defScope sDeed) s0.heap.objs.size f (.ref cm)))) :
    ∃ t, PSs (deedCx P w K mg base f cm A outer s0 H0 E) ((ifBody 6).drop 1) t ∧ ∀ (D : Ends) (d ow pa la st wk : Addr) (so : Int) (p q z : Str) (H : Hp) (s : Sta), D8 C T H s ow la st wk → Dr p q z →
      Out8 C T H s ow (D.rt (.bl true)) → t D (σD d s.r ow pa so p q z wk st la (some (.bl (resetR s p).isSome))) H := by
  have hu := hu_of hr
  refine ⟨_, pss_cons (ps_if (pt_val (pv 11)) (pss_one (ps_dput hu (pv 2) pe_str (pe_ifExp (pt_cmp (pc_din hu (pv 5) (pv 10))) (pe_call l.GM (hr.mono (by decide)) rfl l.mM l.kM l.bM .nil pass0 (pa_cons (pv 9) (pa_cons (pv 5) (pa_cons (pe_dget hu (pv 10) (pv 5) (fun _ _ => rfl)) pa_nil)))) (pe_call l.GL (hr.mono (by decide)) rfl l.mL l.kL l.bL .nil pass0 (pa_cons (pv 9) (pa_cons (pv 5) pa_nil)))) rfl)) pss_nil)
      (pss_one (ps_ret (pe_cmpR op_eq (pe_cmpR op_ne (tdR m bm l.t hr) pe_str (nomark _)) (pv 11) (nomark _)))), fun D d ow pa la st wk so p q z H s a dr kr => ?_⟩
  obtain ⟨pp, pl, _⟩ := pd_ok p dr.p
  obtain ⟨n1, n2, n3⟩ := a.m.l3
  have ln : s.S.length ≤ 1000 := by have := a.iv.ts.fok.n; omega
  cases hb : resetR s p with
  | none =>
    refine ⟨_, rfl, _, rfl, iteF ⟨a.tk, fun G w1 => ⟨s, .str p, rfl, a.sa.go w1, rfl, s, p, rfl, a.sa.go w1, a.iv.ts.fok.sm, (lok100 pl), w1.2, fun _ H' g => ec_G m.X ⟨rfl, _, rfl, rfl, ?_⟩, fun S' e => (by rw [hb] at e; cases e)⟩⟩⟩
    exact kr H' s la st wk ((DStp.go w1).trans (DStp.go g)) ((a.go w1).go g)
  | some S' =>
    have so := resetR_some hb
    refine ⟨_, rfl, _, rfl, iteT ⟨_, rfl, _, rfl, la, _, rfl, DAt.get (.inl a.od.el) p, _, rfl, ?_⟩⟩
    unfold setOf at so
    cases eW : lk s.L p with
    | none =>
      rw [eW] at so
      have so := Option.some.inj so
      refine iteF ⟨_, rfl, _, rfl, st, p, s.S, rfl, a.od.et, a.iv.ts.nd, ln, a.tk, fun G k2 g0 f2 e2 => ⟨_, rfl, ow, _, rfl, DPut.k (k := Sum.inr "staged") (g0.at a.od.e) (by show 3 < sizeLine; decide), ?_⟩⟩
      rw [so] at e2
      rw [od_s]
      obtain ⟨a1, st1⟩ := (a.m.go g0).set (g0.at a.od.el) e2 (g0.at a.od.ek) n1 (a.m.fresh f2) n3
      refine ⟨a1.tk, fun G w1 => ⟨s, .str p, rfl, a1.sa.go w1, rfl, s, p, rfl, a1.sa.go w1, a.iv.ts.fok.sm, (lok100 pl), w1.2, fun z => (by rw [hb] at z; cases z), fun S2 eS H' st2 sa2 => ⟨rfl, _, rfl, rfl, ?_⟩⟩⟩
      rw [hb] at eS
      obtain rfl := Option.some.inj eS
      obtain ⟨q1, q2⟩ := setOf_ok a.iv.ts a.iv.tl a.iv.fs (resetR_some hb)
      exact kr H' { s with S := S' } la k2 wk ((((DStp.go g0).trans st1).trans (DStp.go w1)).trans (DStp.stp st2)) (M8.d ((a1.go w1).stp st2 sa2) ⟨a.iv.tl, q1, a.iv.tw, q2, a.iv.fw, a.iv.pp⟩)
    | some x =>
      rw [eW] at so
      dsimp only at so
      cases ey : way s.S p with
      | true => rw [ey, if_pos rfl] at so; cases so
      | false =>
      rw [ey, if_neg Bool.false_ne_true] at so
      have so := Option.some.inj so
      have dg := DAt.get (.inl a.od.el) p
      rw [eW] at dg
      refine iteT ⟨_, rfl, _, rfl, _, rfl, _, rfl, la, _, rfl, dg, st, p, x, s.S, rfl, a.od.et, a.iv.ts.nd, ln, a.tk, fun G k2 g0 f2 e2 => ⟨_, rfl, ow, _, rfl, DPut.k (k := Sum.inr "staged") (g0.at a.od.e) (by show 3 < sizeLine; decide), ?_⟩⟩
      rw [so] at e2
      rw [od_s]
      obtain ⟨a1, st1⟩ := (a.m.go g0).set (g0.at a.od.el) e2 (g0.at a.od.ek) n1 (a.m.fresh f2) n3
      refine ⟨a1.tk, fun G w1 => ⟨s, .str p, rfl, a1.sa.go w1, rfl, s, p, rfl, a1.sa.go w1, a.iv.ts.fok.sm, (lok100 pl), w1.2, fun z => (by rw [hb] at z; cases z), fun S2 eS H' st2 sa2 => ⟨rfl, _, rfl, rfl, ?_⟩⟩⟩
      rw [hb] at eS
      obtain rfl := Option.some.inj eS
      obtain ⟨q1, q2⟩ := setOf_ok a.iv.ts a.iv.tl a.iv.fs (resetR_some hb)
      exact kr H' { s with S := S' } la k2 wk ((((DStp.go g0).trans st1).trans (DStp.go w1)).trans (DStp.stp st2)) (M8.d ((a1.go w1).stp st2 sa2) ⟨a.iv.tl, q1, a.iv.tw, q2, a.iv.fw, a.iv.pp⟩)
end
end Sg
end Text_S36
section Text_S37
set_option Elab.async false
set_option linter.all false
set_option maxRecDepth 100000
set_option maxHeartbeats 1000000
namespace Sg
open PySem PySem.Spec PyProof.Rows L2 Gx GxR LamY LamZ
section
variable {P : Program} {w : World} {K : PySem.W.Frag} {mg : Str → Option Value} {base : Heap} {T : Tb} {C CP CG CS : Addr} {M : MD} {N : LD}
variable {f cm : Addr} {A : Around} {outer : List Env} {s0 : Shared} {H0 : Hp} {E : XK}
theorem blk5 (m : Ms P w K mg base T C CP CG CS M) (l : La P w K mg base T CS N) (bm : LamX.TabB base mg cm T.m) (hr : Room 26 (A.deeper (envOfC "_law_deed" (defScope sDeed) s0.heap.objs.size f (.ref cm)))) :
    ∃ t, PS (deedCx P w K mg base f cm A outer s0 H0 E) (deedB.getD 5 noS) t ∧ ∀ (D : Ends) (d ow pa la st wk : Addr) (so : Int) (p q z : Str) (H : Hp) (s : Sta), D8 C T H s ow la st wk → Dr p q z →
      D.nx (σD d s.r ow pa so p q z wk st la none) H → Out8 C T H s ow (D.rt (.bl true)) → t D (σD d s.r ow pa so p q z wk st la none) H := by
  have hu := hu_of hr
  obtain ⟨t2, h2, k2⟩ := blk5b (f := f) (cm := cm) (A := A) (outer := outer) (s0 := s0) (H0 := H0) (E := E) m l bm hr
  refine ⟨_, ps_if (pt_cmpR op_lt (pv 4) pe_int (nomark _))
      (pss_cons (ps_set (i := 11) scD.nd rfl (Or.inl rfl) (pe_and (pe_or (pe_cmp (pc_din hu (pv 5) (pv 8)) rfl) (pe_one (pe_cmp (pc_din hu (pv 5) (pv 9)) rfl))) (pe_and (pe_or (pe_cmp (pc_din hu (pv 5) (pv 9)) rfl) (pe_one (pe_not (pe_call l.GO (hr.mono (by decide)) rfl l.mO l.kO l.bO .nil pass0 (pa_cons (pv 5) pa_nil))))) (pe_one (pe_or (pe_cmp (pc_dnotin hu (pv 5) (pv 8)) rfl) (pe_one (pe_not (pe_call l.GW (hr.mono (by decide)) rfl l.mW l.kW l.bW .nil pass0 (pa_cons (pv 9) (pa_cons (pv 5) pa_nil))))))))))
      h2) pss_nil, fun D d ow pa la st wk so p q z H s a dr kn kr => ?_⟩
  refine ⟨_, rfl, _, _, rfl, rfl, _, rfl, ite2 (fun e => ?_) (fun e => kn)⟩
  obtain ⟨pp, pl, _⟩ := pd_ok p dr.p
  have fin : ∀ G, Go T H G → t2 D (σD d s.r ow pa so p q z wk st la (some (.bl (addR s p).isSome))) G := fun G g => k2 D d ow pa la st wk so p q z G s (a.go g) dr (kr.go g)
  have hH := GoE.refl (S := []) a.tk
  rw [addR_good] at fin
  unfold goodS at fin
  rw [a.iv.pp] at fin
  have gW := DAt.get (.inl a.od.ek) p
  have gS := DAt.get (.inl a.od.et) p
  cases eW : lk s.W p with
  | none =>
    rw [eW] at gW fin
    cases eS : lk s.S p with
    | none =>
      rw [eS] at gS fin
      exact ⟨_, rfl, _, rfl, wk, _, rfl, gW, _, rfl, iteF ⟨_, rfl, _, rfl, st, _, rfl, gS, _, rfl, iteF (fin H hH)⟩⟩
    | some y =>
      rw [eS] at gS fin
      exact ⟨_, rfl, _, rfl, wk, _, rfl, gW, _, rfl, iteF ⟨_, rfl, _, rfl, st, _, rfl, gS, _, rfl, iteT ⟨_, rfl, _, rfl, st, _, rfl, gS, _, rfl, iteT ⟨_, rfl, iteT ⟨_, rfl, _, rfl, wk, _, rfl, gW, _, rfl, iteT (fin H hH)⟩⟩⟩⟩⟩
  | some x =>
    have hp := a.iv.tw.pth eW
    rw [eW] at gW fin
    cases eS : lk s.S p with
    | none =>
      rw [eS] at gS fin
      obtain ⟨n, r, es, eo, l1, l2, l3⟩ := out_ok p hp
      rw [← eo] at fin
      refine ⟨_, rfl, _, rfl, wk, _, rfl, gW, _, rfl, iteT ⟨_, rfl, iteT ⟨_, rfl, _, rfl, st, _, rfl, gS, _, rfl, iteF ⟨_, rfl, p, n, r, rfl, es, l1, l2, l3, a.tk, fun G g => ⟨_, rfl, _, rfl, ?_⟩⟩⟩⟩⟩
      cases eu : outN n with
      | true => 
        rw [eu] at fin
        exact iteF (fin G g)
      | false =>
        rw [eu] at fin
        exact iteT ⟨_, rfl, _, rfl, wk, _, rfl, DAt.get (.inl (g.at a.od.ek)) p, _, rfl, (if_neg (by rw [eW]; exact Bool.false_ne_true)).mpr ⟨_, rfl, _, rfl, st, p, s.S, rfl, .inl (g.at a.od.et), a.iv.ts.fok.str, lok100 pl, g.2, fun G2 g2 => ⟨_, rfl, fin G2 (g.trans g2)⟩⟩⟩
    | some y =>
      rw [eS] at gS fin
      exact ⟨_, rfl, _, rfl, wk, _, rfl, gW, _, rfl, iteT ⟨_, rfl, iteT ⟨_, rfl, _, rfl, st, _, rfl, gS, _, rfl, iteT ⟨_, rfl, iteT ⟨_, rfl, _, rfl, wk, _, rfl, gW, _, rfl, iteF ⟨_, rfl, _, rfl, st, p, s.S, rfl, .inl a.od.et, a.iv.ts.fok.str, lok100 pl, a.tk, fun G2 g2 => ⟨_, rfl, fin G2 g2⟩⟩⟩⟩⟩⟩⟩
theorem blk6 (m : Ms P w K mg base T C CP CG CS M) (l : La P w K mg base T CS N) (bm : LamX.TabB base mg cm T.m) (hr : Room 26 (A.deeper (envOfC "_law_deed" (defScope sDeed) s0.heap.objs.size f (.ref cm)))) :
    ∃ t, PS (deedCx P w K mg base f cm A outer s0 H0 E) (deedB.getD 6 noS) t ∧ ∀ (D : Ends) (d ow pa la st wk : Addr) (so : Int) (p q z : Str) (H : Hp) (s : Sta), D8 C T H s ow la st wk → Dr p q z →
      D.nx (σD d s.r ow pa so p q z wk st la none) H → Out8 C T H s ow (D.rt (.bl true)) → t D (σD d s.r ow pa so p q z wk st la none) H := by
  have hu := hu_of hr
  obtain ⟨t2, h2, k2⟩ := blk6b (f := f) (cm := cm) (A := A) (outer := outer) (s0 := s0) (H0 := H0) (E := E) m l bm hr
  refine ⟨_, ps_if (pt_cmpR op_eq (pv 4) pe_int (nomark _))
      (pss_cons (ps_set (i := 11) scD.nd rfl (Or.inl rfl) (pe_and (pe_or (pe_cmp (pc_din hu (pv 5) (pv 9)) rfl) (pe_one (pe_cmp (pc_din hu (pv 5) (pv 10)) rfl))) (pe_one (pe_or (pe_cmp (pc_dnotin hu (pv 5) (pv 10)) rfl) (pe_one (pe_not (pe_call l.GW (hr.mono (by decide)) rfl l.mW l.kW l.bW .nil pass0 (pa_cons (pv 9) (pa_cons (pv 5) pa_nil)))))))))
      h2) pss_nil, fun D d ow pa la st wk so p q z H s a dr kn kr => ?_⟩
  refine ⟨_, rfl, rfl, _, rfl, ite2 (fun e => ?_) (fun e => kn)⟩
  obtain ⟨pp, pl, _⟩ := pd_ok p dr.p
  have fin : ∀ G, Go T H G → t2 D (σD d s.r ow pa so p q z wk st la (some (.bl (resetR s p).isSome))) G := fun G g => k2 D d ow pa la st wk so p q z G s (a.go g) dr (kr.go g)
  have hH := GoE.refl (S := []) a.tk
  rw [resetR_good] at fin
  unfold goodS at fin
  have gL := DAt.get (.inl a.od.el) p
  have gS := DAt.get (.inl a.od.et) p
  cases eL : lk s.L p with
  | none =>
    rw [eL] at gL fin
    cases eS : lk s.S p with
    | none =>
      rw [eS] at gS fin
      exact ⟨_, rfl, _, rfl, st, _, rfl, gS, _, rfl, iteF ⟨_, rfl, _, rfl, la, _, rfl, gL, _, rfl, iteF (fin H hH)⟩⟩
    | some y =>
      rw [eS] at gS fin
      exact ⟨_, rfl, _, rfl, st, _, rfl, gS, _, rfl, iteT ⟨_, rfl, iteT ⟨_, rfl, _, rfl, la, _, rfl, gL, _, rfl, iteT (fin H hH)⟩⟩⟩
  | some x =>
    have hp := a.iv.tl.pth eL
    rw [eL] at gL fin
    cases eS : lk s.S p with
    | none =>
      rw [eS] at gS fin
      exact ⟨_, rfl, _, rfl, st, _, rfl, gS, _, rfl, iteF ⟨_, rfl, _, rfl, la, _, rfl, gL, _, rfl, iteT ⟨_, rfl, _, rfl, la, _, rfl, gL, _, rfl, iteF ⟨_, rfl, _, rfl, st, p, s.S, rfl, .inl a.od.et, a.iv.ts.fok.str, lok100 pl, a.tk, fun G2 g2 => ⟨_, rfl, fin G2 g2⟩⟩⟩⟩⟩
    | some y =>
      rw [eS] at gS fin
      exact ⟨_, rfl, _, rfl, st, _, rfl, gS, _, rfl, iteT ⟨_, rfl, iteT ⟨_, rfl, _, rfl, la, _, rfl, gL, _, rfl, iteF ⟨_, rfl, _, rfl, st, p, s.S, rfl, .inl a.od.et, a.iv.ts.fok.str, lok100 pl, a.tk, fun G2 g2 => ⟨_, rfl, fin G2 g2⟩⟩⟩⟩⟩
theorem blk7b (m : Ms P w K mg base T C CP CG CS M) (l : La P w K mg base T CS N) (bm : LamX.TabB base mg cm T.m) (hr : Room 26 (A.deeper (envOfC "_law_deed" (defScope sDeed) s0.heap.objs.size f (.ref cm)))) :
    ∃ t, PSs (deedCx P w K mg base f cm A outer s0 H0 E) ((ifBody 7).drop 1) t ∧ ∀ (D : Ends) (d ow pa la st wk : Addr) (so : Int) (p q z : Str) (H : Hp) (s : Sta), D8 C T H s ow la st wk → Dr p q z →
      Out8 C T H s ow (D.rt (.bl true)) → t D (σD d s.r ow pa so p q z wk st la (some (.bl ((lk s.S p).isSome && !way s.W p)))) H := by
  have hu := hu_of hr
  refine ⟨_, pss_cons (ps_dput hu (pv 2) pe_str (pe_ifExp (pt_val (pv 11)) (pe_call l.GM (hr.mono (by decide)) rfl l.mM l.kM l.bM .nil pass0 (pa_cons (pv 8) (pa_cons (pv 5) (pa_cons (pe_dget hu (pv 9) (pv 5) (fun _ _ => rfl)) pa_nil)))) (pv 8)) rfl)
      (pss_one (ps_ret (pe_cmpR op_eq (pe_cmpR op_ne (tdY m bm l.t hr) pe_str (nomark _)) (pv 11) (nomark _)))), fun D d ow pa la st wk so p q z H s a dr kr => ?_⟩
  obtain ⟨pp, pl, _⟩ := pd_ok p dr.p
  obtain ⟨n1, n2, n3⟩ := a.m.l3
  cases hb : (lk s.S p).isSome && !way s.W p with
  | false =>
    refine ⟨_, rfl, _, rfl, iteF ⟨_, rfl, _, rfl, ow, _, rfl, DPut.k (k := Sum.inr "work") a.od.e (by show 3 < sizeLine; decide), ?_⟩⟩
    rw [od_w]
    obtain ⟨a1, st1⟩ := a.m.set a.od.el a.od.et a.od.ek n1 n2 n3
    refine ⟨a1.tk, fun G w1 => ⟨s, .str p, rfl, a1.sa.go w1, rfl, s, p, rfl, a1.sa.go w1, a.iv.tw.fok.sm, lok100 pl, w1.2, fun _ H' g => ec_G m.X ⟨rfl, _, rfl, rfl, ?_⟩, fun z e1 e2 => ?_⟩⟩
    · exact kr H' s la st wk ((st1.trans (DStp.go w1)).trans (DStp.go g)) (((a1.go w1).go g).d a.iv)
    · rw [e1, e2] at hb
      cases hb
  | true =>
    have hb2 := (Bool.and_eq_true _ _).mp hb
    obtain ⟨x, eS⟩ := Option.isSome_iff_exists.mp hb2.1
    have hw : way s.W p = false := by simpa using hb2.2
    have dg := DAt.get (.inl a.od.et) p
    rw [eS] at dg
    refine ⟨_, rfl, _, rfl, iteT ⟨_, rfl, _, rfl, _, rfl, _, rfl, st, _, rfl, dg, wk, p, x, s.W, rfl, a.od.ek, a.iv.tw.nd, by have := a.iv.tw.fok.n; omega, a.tk, fun G k2 g0 f2 e2 => ⟨_, rfl, ow, _, rfl, DPut.k (k := Sum.inr "work") (g0.at a.od.e) (by show 3 < sizeLine; decide), ?_⟩⟩⟩
    rw [od_w]
    obtain ⟨a1, st1⟩ := (a.m.go g0).set (g0.at a.od.el) (g0.at a.od.et) e2 n1 n2 (a.m.fresh f2)
    refine ⟨a1.tk, fun G w1 => ⟨s, .str p, rfl, a1.sa.go w1, rfl, s, p, rfl, a1.sa.go w1, a.iv.tw.fok.sm, lok100 pl, w1.2, fun hn => (by rw [hb] at hn; cases hn), fun x2 e1 _ H' st2 sa2 => ⟨rfl, _, rfl, rfl, ?_⟩⟩⟩
    rw [eS] at e1
    obtain rfl := Option.some.inj e1
    exact kr H' { s with W := fPut s.W p x } la st k2 ((((DStp.go g0).trans st1).trans (DStp.go w1)).trans (DStp.stp st2)) (M8.d ((a1.go w1).stp st2 sa2) ⟨a.iv.tl, a.iv.ts, a.iv.tw.put (a.iv.ts.pth eS) (a.iv.ts.txt eS), a.iv.fs, a.iv.fw.put (way_drop hw p), a.iv.pp⟩)
theorem blk7 (m : Ms P w K mg base T C CP CG CS M) (l : La P w K mg base T CS N) (bm : LamX.TabB base mg cm T.m) (hr : Room 26 (A.deeper (envOfC "_law_deed" (defScope sDeed) s0.heap.objs.size f (.ref cm)))) :
    ∃ t, PS (deedCx P w K mg base f cm A outer s0 H0 E) (deedB.getD 7 noS) t ∧ ∀ (D : Ends) (d ow pa la st wk : Addr) (so : Int) (p q z : Str) (H : Hp) (s : Sta), D8 C T H s ow la st wk → Dr p q z →
      D.nx (σD d s.r ow pa so p q z wk st la none) H → Out8 C T H s ow (D.rt (.bl true)) → t D (σD d s.r ow pa so p q z wk st la none) H := by
  have hu := hu_of hr
  obtain ⟨t2, h2, k2⟩ := blk7b (f := f) (cm := cm) (A := A) (outer := outer) (s0 := s0) (H0 := H0) (E := E) m l bm hr
  refine ⟨_, ps_if (pt_cmpR op_eq (pv 4) pe_int (nomark _))
      (pss_cons (ps_set (i := 11) scD.nd rfl (Or.inl rfl) (pe_and (pe_cmp (pc_din hu (pv 5) (pv 9)) rfl) (pe_one (pe_not (pe_call l.GW (hr.mono (by decide)) rfl l.mW l.kW l.bW .nil pass0 (pa_cons (pv 8) (pa_cons (pv 5) pa_nil)))))))
      h2) pss_nil, fun D d ow pa la st wk so p q z H s a dr kn kr => ?_⟩
  refine ⟨_, rfl, rfl, _, rfl, ite2 (fun e => ?_) (fun e => kn)⟩
  obtain ⟨pp, pl, _⟩ := pd_ok p dr.p
  have fin : ∀ G, Go T H G → t2 D (σD d s.r ow pa so p q z wk st la (some (.bl ((lk s.S p).isSome && !way s.W p)))) G := fun G g => k2 D d ow pa la st wk so p q z G s (a.go g) dr (kr.go g)
  have gS := DAt.get (.inl a.od.et) p
  cases eS : lk s.S p with
  | none =>
    rw [eS] at gS fin
    exact ⟨_, rfl, _, rfl, st, _, rfl, gS, _, rfl, iteF (fin H (GoE.refl a.tk))⟩
  | some y =>
    rw [eS] at gS fin
    exact ⟨_, rfl, _, rfl, st, _, rfl, gS, _, rfl, iteT ⟨_, rfl, _, rfl, wk, p, s.W, rfl, .inl a.od.ek, a.iv.tw.fok.str, lok100 pl, a.tk, fun G2 g2 => ⟨_, rfl, fin G2 g2⟩⟩⟩
end
end Sg
end Text_S37
section Text_S38
set_option Elab.async false
set_option linter.all false
set_option maxRecDepth 100000
set_option maxHeartbeats 1000000
namespace Sg
open PySem PySem.Spec PyProof.Rows L2 Gx GxR LamY LamZ
/-- good, when a file is moved -/
def goodM (s : Sta) (p q : Str) : Bool := (mvOk s p q && !decide (q = "")) && !way (fDrop s.W p) q && !way (fDrop s.S p) q
theorem bad_mv {A : Files} (t : Tok A) (wf : wayFree A) {p q z : Str} (hq : q ∈ PTH ∨ q = "") (n : lk A q = none) : badF (mv A p q z) = (decide (q = "") || way (fDrop A p) q) := by
  unfold mv
  rw [bad_put (t.drop p) (wf.drop p) hq, fDrop_none (by rw [lk_drop, n]; split <;> rfl)]
theorem mvOk_q {s : Sta} {p q : Str} (h : mvOk s p q = true) : lk s.W q = none ∧ lk s.S q = none ∧ (lk s.S p).isSome = true ∧ lk s.W p = lk s.S p := by
  unfold mvOk at h
  simp only [Bool.and_eq_true, decide_eq_true_iff, Option.isNone_iff_eq_none] at h
  exact ⟨h.1.2, h.2, h.1.1.1, h.1.1.2⟩
section
variable {P : Program} {w : World} {K : PySem.W.Frag} {mg : Str → Option Value} {base : Heap} {T : Tb} {C CP CG CS : Addr} {M : MD} {N : LD}
variable {f cm : Addr} {A : Around} {outer : List Env} {s0 : Shared} {H0 : Hp} {E : XK}
theorem blk8c (m : Ms P w K mg base T C CP CG CS M) (l : La P w K mg base T CS N) (bm : LamX.TabB base mg cm T.m) (hr : Room 26 (A.deeper (envOfC "_law_deed" (defScope sDeed) s0.heap.objs.size f (.ref cm)))) :
    ∃ t, PSs (deedCx P w K mg base f cm A outer s0 H0 E) ((ifBody 8).drop 2) t ∧ ∀ (D : Ends) (d ow pa la st wk : Addr) (so : Int) (p q z : Str) (H : Hp) (s : Sta), D8 C T H s ow la st wk → Dr p q z →
      Out8 C T H s ow (D.rt (.bl true)) → t D (σD d s.r ow pa so p q z wk st la (some (.bl (goodM s p q)))) H := by
  have hu := hu_of hr
  refine ⟨_, pss_cons (ps_if (pt_val (pv 11)) (pss_one (ps_asg (pe_tup (pa_cons (pe_call l.GM (hr.mono (by decide)) rfl l.mM l.kM l.bM .nil pass0 (pa_cons (pe_call l.GL (hr.mono (by decide)) rfl l.mL l.kL l.bL .nil pass0 (pa_cons (pv 8) (pa_cons (pv 5) pa_nil))) (pa_cons (pv 6) (pa_cons (pe_dget hu (pv 8) (pv 5) (fun _ _ => rfl)) pa_nil)))) (pa_cons (pe_call l.GM (hr.mono (by decide)) rfl l.mM l.kM l.bM .nil pass0 (pa_cons (pe_call l.GL (hr.mono (by decide)) rfl l.mL l.kL l.bL .nil pass0 (pa_cons (pv 9) (pa_cons (pv 5) pa_nil))) (pa_cons (pv 6) (pa_cons (pe_dget hu (pv 9) (pv 5) (fun _ _ => rfl)) pa_nil)))) pa_nil))) (pg_tup rfl (pgs_cons (pg_sub (pv 2) pe_str (set_dict hu)) (pgs_cons (pg_sub (pv 2) pe_str (set_dict hu)) pgs_nil))))) pss_nil)
      (pss_one (ps_ret (pe_cmpR op_eq (pe_cmpR op_ne (tdM m bm l.t hr) pe_str (nomark _)) (pv 11) (nomark _)))), fun D d ow pa la st wk so p q z H s a dr kr => ?_⟩
  obtain ⟨pp, pl, _⟩ := pd_ok p dr.p
  obtain ⟨qq, ql, _⟩ := pd_ok q dr.q
  obtain ⟨n1, n2, n3⟩ := a.m.l3
  have lS : s.S.length ≤ 1000 := by have := a.iv.ts.fok.n; omega
  have lW : s.W.length ≤ 1000 := by have := a.iv.tw.fok.n; omega
  have bads : ∀ z, mvOk s p q = true → (badF (mv s.W p q z) || badF (mv s.S p q z)) = !goodM s p q := fun z h => by
    obtain ⟨m1, m2, _, _⟩ := mvOk_q h
    rw [bad_mv a.iv.tw a.iv.fw qq m1, bad_mv a.iv.ts a.iv.fs qq m2]
    unfold goodM
    rw [h]
    cases decide (q = "") <;> cases way (fDrop s.W p) q <;> cases way (fDrop s.S p) q <;> rfl
  cases hb : goodM s p q with
  | false =>
    rw [hb] at bads
    refine ⟨_, rfl, _, rfl, iteF ⟨a.tk, fun G w1 => ⟨s, .str p, .str q, rfl, a.sa.go w1, rfl, rfl, s, p, q, rfl, a.sa.go w1, (by have := a.iv.tw.fok.n; omega), (by have := a.iv.ts.fok.n; omega), fun z _ _ => ⟨fsm_put (a.iv.tw.drop p) qq, fsm_put (a.iv.ts.drop p) qq⟩, w1.2, fun _ H' g => ec_G m.X ⟨rfl, _, rfl, rfl, ?_⟩, fun z h e _ H' g => ec_P m.X ⟨rfl, _, rfl, rfl, ?_⟩, fun z h e b => absurd b (by rw [bads z h]; decide)⟩⟩⟩
    · exact kr H' s la st wk ((DStp.go w1).trans (DStp.go g)) ((a.go w1).go g)
    · exact kr H' s la st wk ((DStp.go w1).trans (DStp.go g)) ((a.go w1).go g)
  | true =>
    rw [hb] at bads
    have hm : mvOk s p q = true := by
      unfold goodM at hb
      simp only [Bool.and_eq_true] at hb
      exact hb.1.1.1
    have hq : q ≠ "" := by
      unfold goodM at hb
      simp only [Bool.and_eq_true] at hb
      simpa using hb.1.1.2
    obtain ⟨m1, m2, m3, m4⟩ := mvOk_q hm
    obtain ⟨x, eS⟩ := Option.isSome_iff_exists.mp m3
    have eW := m4.trans eS
    have qP := qq.resolve_right hq
    have gW := DAt.get (.inl a.od.ek) p
    have gS := DAt.get (.inl a.od.et) p
    rw [eW] at gW
    rw [eS] at gS
    have tw := (a.iv.tw.drop p).put qP (a.iv.tw.txt eW)
    have ts := (a.iv.ts.drop p).put qP (a.iv.ts.txt eS)
    refine ⟨_, rfl, _, rfl, iteT ⟨_, rfl, _, rfl, wk, p, s.W, rfl, a.od.ek, a.iv.tw.nd, lW, a.tk, fun G1 d1 g1 f1 e1 => ⟨_, rfl, _, rfl, _, rfl, wk, _, rfl, DAt.get (.inl (g1.at a.od.ek)) p |> fun q => (by rw [eW] at q; exact q), d1, q, x, fDrop s.W p, rfl, e1, (a.iv.tw.drop p).nd, (by have := fDrop_len s.W p; omega), g1.2, fun G2 k2 g2 f2 e2 => ?_⟩⟩⟩
    have g12 := g1.trans g2
    have fk2 : Fresh H k2 := fun u e => by
      refine Classical.byContradiction fun z => ?_
      obtain ⟨ps, e3⟩ := f2 u (g1.1 k2 u e (fun ps q => z ⟨ps, q⟩) (.inl (by simp)))
      exact z ⟨ps, e3⟩
    refine ⟨_, rfl, _, rfl, st, p, s.S, rfl, g12.at a.od.et, a.iv.ts.nd, lS, g12.2, fun G3 d3 g3 f3 e3 => ⟨_, rfl, _, rfl, _, rfl, st, _, rfl, DAt.get (.inl (g3.at (g12.at a.od.et))) p |> fun q => (by rw [eS] at q; exact q), d3, q, x, fDrop s.S p, rfl, e3, (a.iv.ts.drop p).nd, (by have := fDrop_len s.S p; omega), g3.2, fun G4 t2 g4 f4 e4 => ⟨by show 2 ≤ sizeLine; decide, fun tt htt => ?_⟩⟩⟩
    have g34 := g3.trans g4
    have ft2 : Fresh H t2 := fun u e => by
      refine Classical.byContradiction fun z => ?_
      obtain ⟨ps, e3⟩ := f4 u ((g12.trans g3).1 t2 u e (fun ps q => z ⟨ps, q⟩) (.inl (by simp)))
      exact z ⟨ps, e3⟩
    have w5 : Go T G4 (upd G4 tt (.tup [.ref k2, .ref t2])) := go_upd g34.2 htt
    have et : upd G4 tt (.tup [.ref k2, .ref t2]) tt = some (.tup [.ref k2, .ref t2]) := upd_same
    have e2 := w5.at (g34.at e2)
    have e4 := w5.at e4
    have gg := (g12.trans g34).trans w5
    generalize upd G4 tt (.tup [.ref k2, .ref t2]) = G5 at w5 et e2 e4 gg ⊢
    refine ⟨tt, _, rfl, SqT.of et, rfl, _, _, rfl, _, rfl, ow, _, rfl, DPut.k (k := Sum.inr "work") (gg.at a.od.e) (by show 3 < sizeLine; decide), ?_⟩
    rw [od_w]
    obtain ⟨a1, st1⟩ := (a.m.go gg).set (gg.at a.od.el) (gg.at a.od.et) e2 n1 n2 (a.m.fresh fk2)
    have e4' : upd G5 ow (.dK (odK la st k2)) t2 = some (.dK (fk (fPut (fDrop s.S p) q x))) := by rw [upd_ne (Ne.symm (a.m.fresh ft2).2)]; exact e4
    refine ⟨_, _, rfl, _, rfl, ow, _, rfl, DPut.k (k := Sum.inr "staged") a1.od.e (by show 3 < sizeLine; decide), rfl, ?_⟩
    rw [od_s]
    obtain ⟨a2, st2⟩ := a1.set a1.od.el e4' a1.od.ek n1 (a.m.fresh ft2) (a.m.fresh fk2)
    refine ⟨a2.tk, fun G w1 => ⟨s, .str p, .str q, rfl, a2.sa.go w1, rfl, rfl, s, p, q, rfl, a2.sa.go w1, (by have := a.iv.tw.fok.n; omega), (by have := a.iv.ts.fok.n; omega), fun z _ _ => ⟨fsm_put (a.iv.tw.drop p) qq, fsm_put (a.iv.ts.drop p) qq⟩, w1.2, fun h => absurd h (by rw [hm]; decide), fun z h e b => absurd b (by rw [bads z h]; decide), fun z h e b H' d1 d2 st3 sa3 => ⟨rfl, _, rfl, rfl, ?_⟩⟩⟩
    rw [eS] at e
    obtain rfl := Option.some.inj e
    have hb2 := bads x hm
    rw [Bool.not_true, Bool.or_eq_false_iff] at hb2
    refine kr H' { s with ds := d1, dw := d2, S := mv s.S p q x, W := mv s.W p q x } la t2 k2 (((((DStp.go gg).trans st1).trans st2).trans (DStp.go w1)).trans (DStp.stp st3)) (M8.d ((a2.go w1).stp st3 sa3) ⟨a.iv.tl, ts, tw, ?_, ?_, a.iv.pp⟩)
    · refine (a.iv.fs.drop p).put ?_
      have := hb2.2
      rw [bad_mv a.iv.ts a.iv.fs qq m2, Bool.or_eq_false_iff] at this
      exact way_drop this.2 q
    · refine (a.iv.fw.drop p).put ?_
      have := hb2.1
      rw [bad_mv a.iv.tw a.iv.fw qq m1, Bool.or_eq_false_iff] at this
      exact way_drop this.2 q
theorem blk8b (m : Ms P w K mg base T C CP CG CS M) (l : La P w K mg base T CS N) (bm : LamX.TabB base mg cm T.m) (hr : Room 26 (A.deeper (envOfC "_law_deed" (defScope sDeed) s0.heap.objs.size f (.ref cm)))) :
    ∃ t, PSs (deedCx P w K mg base f cm A outer s0 H0 E) ((ifBody 8).drop 1) t ∧ ∀ (D : Ends) (d ow pa la st wk : Addr) (so : Int) (p q z : Str) (H : Hp) (s : Sta), D8 C T H s ow la st wk → Dr p q z →
      Out8 C T H s ow (D.rt (.bl true)) → t D (σD d s.r ow pa so p q z wk st la (some (.bl (mvOk s p q && !decide (q = ""))))) H := by
  have hu := hu_of hr
  obtain ⟨t2, h2, k2⟩ := blk8c (f := f) (cm := cm) (A := A) (outer := outer) (s0 := s0) (H0 := H0) (E := E) m l bm hr
  refine ⟨_, pss_cons (ps_set (i := 11) scD.nd rfl (Or.inl rfl) (pe_and (pv 11) (pe_and (pe_not (pe_call l.GW (hr.mono (by decide)) rfl l.mW l.kW l.bW .nil pass0 (pa_cons (pe_call l.GL (hr.mono (by decide)) rfl l.mL l.kL l.bL .nil pass0 (pa_cons (pv 8) (pa_cons (pv 5) pa_nil))) (pa_cons (pv 6) pa_nil)))) (pe_one (pe_not (pe_call l.GW (hr.mono (by decide)) rfl l.mW l.kW l.bW .nil pass0 (pa_cons (pe_call l.GL (hr.mono (by decide)) rfl l.mL l.kL l.bL .nil pass0 (pa_cons (pv 9) (pa_cons (pv 5) pa_nil))) (pa_cons (pv 6) pa_nil)))))))) h2, fun D d ow pa la st wk so p q z H s a dr kr => ?_⟩
  obtain ⟨pp, pl, _⟩ := pd_ok p dr.p
  obtain ⟨qq, ql, _⟩ := pd_ok q dr.q
  have lS : s.S.length ≤ 1000 := by have := a.iv.ts.fok.n; omega
  have lW : s.W.length ≤ 1000 := by have := a.iv.tw.fok.n; omega
  have fin : ∀ G, Go T H G → t2 D (σD d s.r ow pa so p q z wk st la (some (.bl (goodM s p q)))) G := fun G g => k2 D d ow pa la st wk so p q z G s (a.go g) dr (kr.go g)
  unfold goodM at fin
  cases hb : mvOk s p q && !decide (q = "") with
  | false =>
    rw [hb] at fin
    exact ⟨_, rfl, _, rfl, iteF (fin H (GoE.refl a.tk))⟩
  | true =>
    rw [hb] at fin
    refine ⟨_, rfl, _, rfl, iteT ⟨_, rfl, _, rfl, wk, p, s.W, rfl, a.od.ek, a.iv.tw.nd, lW, a.tk, fun G d1 g f2 e2 => ⟨_, rfl, d1, q, fDrop s.W p, rfl, .inl e2, (a.iv.tw.drop p).fok.str, lok100 ql, g.2, fun G2 g2 => ⟨_, rfl, _, rfl, ?_⟩⟩⟩⟩
    have gg := g.trans g2
    cases hw : way (fDrop s.W p) q with
    | true =>
      rw [hw] at fin
      exact iteF (fin G2 gg)
    | false =>
      rw [hw] at fin
      exact iteT ⟨_, rfl, _, rfl, st, p, s.S, rfl, gg.at a.od.et, a.iv.ts.nd, lS, gg.2, fun G3 d3 g3 f3 e3 => ⟨_, rfl, d3, q, fDrop s.S p, rfl, .inl e3, (a.iv.ts.drop p).fok.str, lok100 ql, g3.2, fun G4 g4 => ⟨_, rfl, fin G4 ((gg.trans g3).trans g4)⟩⟩⟩
theorem blk8 (m : Ms P w K mg base T C CP CG CS M) (l : La P w K mg base T CS N) (bm : LamX.TabB base mg cm T.m) (hr : Room 26 (A.deeper (envOfC "_law_deed" (defScope sDeed) s0.heap.objs.size f (.ref cm)))) :
    ∃ t, PS (deedCx P w K mg base f cm A outer s0 H0 E) (deedB.getD 8 noS) t ∧ ∀ (D : Ends) (d ow pa la st wk : Addr) (so : Int) (p q z : Str) (H : Hp) (s : Sta), D8 C T H s ow la st wk → Dr p q z →
      D.nx (σD d s.r ow pa so p q z wk st la none) H → Out8 C T H s ow (D.rt (.bl true)) → t D (σD d s.r ow pa so p q z wk st la none) H := by
  have hu := hu_of hr
  obtain ⟨t2, h2, k2⟩ := blk8b (f := f) (cm := cm) (A := A) (outer := outer) (s0 := s0) (H0 := H0) (E := E) m l bm hr
  refine ⟨_, ps_if (pt_cmpR op_lt (pv 4) pe_int (nomark _))
      (pss_cons (ps_set (i := 11) scD.nd rfl (Or.inl rfl) (pe_and (pe_cmp (pc_din hu (pv 5) (pv 9)) rfl) (pe_and (pe_cmpR op_eq (pe_dget1 hu (pv 8) (pv 5) ⟨rfl, rfl, rfl, rfl⟩) (pe_dget hu (pv 9) (pv 5) (fun _ _ => rfl)) (nomark _)) (pe_and (pe_cmp (pc_dnotin hu (pv 6) (pv 8)) rfl) (pe_and (pe_cmp (pc_dnotin hu (pv 6) (pv 9)) rfl) (pe_one (pe_cmpR op_ne (pv 6) pe_str (nomark _))))))))
      h2) pss_nil, fun D d ow pa la st wk so p q z H s a dr kn kr => ?_⟩
  refine ⟨_, rfl, _, _, rfl, rfl, _, rfl, ite2 (fun e => ?_) (fun e => kn)⟩
  have fin : t2 D (σD d s.r ow pa so p q z wk st la (some (.bl (mvOk s p q && !decide (q = ""))))) H := k2 D d ow pa la st wk so p q z H s a dr kr
  have no : mvOk s p q = false → t2 D (σD d s.r ow pa so p q z wk st la (some (.bl false))) H := fun h => by
    rw [h] at fin
    exact fin
  have gW := DAt.get (.inl a.od.ek) p
  have gS := DAt.get (.inl a.od.et) p
  have gWq := DAt.get (.inl a.od.ek) q
  have gSq := DAt.get (.inl a.od.et) q
  have kI : IsD H wk := DAt.isD (.inl a.od.ek)
  cases eS : lk s.S p with
  | none =>
    rw [eS] at gS
    exact ⟨_, rfl, _, rfl, st, _, rfl, gS, _, rfl, iteF (no (by unfold mvOk; rw [eS]; rfl))⟩
  | some y =>
    rw [eS] at gS
    cases eW : lk s.W p with
    | none =>
      rw [eW] at gW
      exact ⟨_, rfl, _, rfl, st, _, rfl, gS, _, rfl, iteT ⟨_, rfl, wk, rfl, kI, _, rfl, _, gW, _, rfl, _, rfl, st, _, rfl, gS, rfl, _, rfl, iteF (no (by unfold mvOk; rw [eS, eW]; rfl))⟩⟩
    | some x =>
      rw [eW] at gW
      refine ⟨_, rfl, _, rfl, st, _, rfl, gS, _, rfl, iteT ⟨_, rfl, wk, rfl, kI, _, rfl, _, gW, _, rfl, _, rfl, st, _, rfl, gS, rfl, _, rfl, ?_⟩⟩
      by_cases ex : x = y
      · subst ex
        refine (if_pos (decide_eq_true rfl)).mpr ⟨_, rfl, _, rfl, wk, _, rfl, gWq, _, rfl, ?_⟩
        cases e1 : lk s.W q with
        | some v => exact iteF (no (by unfold mvOk; rw [e1]; simp))
        | none =>
          refine iteT ⟨_, rfl, _, rfl, st, _, rfl, gSq, _, rfl, ?_⟩
          cases e2 : lk s.S q with
          | some v => exact iteF (no (by unfold mvOk; rw [e2]; simp))
          | none =>
            refine iteT ⟨_, rfl, rfl, ?_⟩
            rw [strD]
            rw [show mvOk s p q = true by unfold mvOk; rw [eS, eW, e1, e2]; simp] at fin
            exact fin
      · exact (if_neg (by show ¬ decide (V.str x = V.str y) = true; rw [decide_eq_false fun e => ex (V.str.inj e)]; decide)).mpr (no (by unfold mvOk; rw [eS, eW]; simp [ex]))
theorem blk9 (m : Ms P w K mg base T C CP CG CS M) (l : La P w K mg base T CS N) (bm : LamX.TabB base mg cm T.m) (hr : Room 26 (A.deeper (envOfC "_law_deed" (defScope sDeed) s0.heap.objs.size f (.ref cm)))) :
    ∃ t, PS (deedCx P w K mg base f cm A outer s0 H0 E) (deedB.getD 9 noS) t ∧ ∀ (D : Ends) (d ow pa la st wk : Addr) (so : Int) (p q z : Str) (H : Hp) (s : Sta), D8 C T H s ow la st wk → Dr p q z →
      D.nx (σD d s.r ow pa so p q z wk st la none) H → Out8 C T H s ow (D.rt (.bl true)) → t D (σD d s.r ow pa so p q z wk st la none) H := by
  have hu := hu_of hr
  refine ⟨_, ps_if (pt_cmpR op_eq (pv 4) pe_int (nomark _))
      (pss_cons (ps_dput hu (pv 2) pe_str (pv 9) rfl)
      (pss_one (ps_ret (pe_cmpR (op_eqF (by have := hr.units; exact Nat.lt_of_le_of_lt (Nat.le_add_right _ 64) this)) (pe_meth0 (pv 1) m.L.cl m.mK m.GK (hr.mono (by decide)) m.bK .nil pass0) (pv 9) (nomark _))))) pss_nil, fun D d ow pa la st wk so p q z H s a dr kn kr => ?_⟩
  refine ⟨_, rfl, rfl, _, rfl, ite2 (fun e => ?_) (fun e => kn)⟩
  obtain ⟨n1, n2, n3⟩ := a.m.l3
  refine ⟨_, rfl, _, rfl, ow, _, rfl, DPut.k (k := Sum.inr "last") a.od.e (by show 3 < sizeLine; decide), ?_⟩
  rw [od_l]
  obtain ⟨a1, st1⟩ := a.m.set a.od.et a.od.et a.od.ek n2 n2 n3
  obtain ⟨⟨dx, tp, er, ep⟩, _⟩ := id a1.sa
  refine ⟨_, rfl, s.r, dx, _, rfl, er, look_no (by decide +kernel), s, rfl, a1.sa, a1.tk, fun H' dl dk st2 sa2 ed fd => ⟨_, rfl, dk, st, s.S, s.S, rfl, rfl, ed, ((a1.stp st2 sa2).od.et), ?_⟩⟩
  rw [eqF_self a.iv.ts.nd]
  exact kr H' { s with dl := dl, L := s.S } st st wk (st1.trans (DStp.stp st2)) (M8.d (a1.stp st2 sa2) ⟨a.iv.ts, a.iv.ts, a.iv.tw, a.iv.fs, a.iv.fw, a.iv.pp⟩)
end
end Sg
end Text_S38
section Text_S39
set_option Elab.async false
set_option linter.all false
set_option maxRecDepth 100000
set_option maxHeartbeats 1000000
namespace Sg
open PySem PySem.Spec PyProof.Rows L2 Gx GxR LamY LamZ
/-- the files that a stage moves to -/
def filesOf (p z : Str) : Files := (if p = "" then ([] : Files) else [(p, z)]) ++ ([("g", "q")] : Files)
theorem g_way : ∀ p ∈ PTH, wayS p "g" = false := by decide +kernel
theorem files_tok {p q z : Str} (d : Dr p q z) : Tok (filesOf p z) ∧ wayFree (filesOf p z) := by
  obtain ⟨pp, _, pg⟩ := pd_ok p d.p
  by_cases e : p = ""
  · unfold filesOf
    rw [if_pos e]
    refine ⟨⟨fun q hq => ?_, by decide⟩, fun x hx y hy => ?_⟩
    · rw [List.mem_singleton.mp hq]
      decide +kernel
    · rw [List.mem_singleton.mp hx, List.mem_singleton.mp hy]
      exact wayS_self _
  · have hp := pp.resolve_right e
    unfold filesOf
    rw [if_neg e]
    refine ⟨⟨fun q hq => ?_, ?_⟩, fun x hx y hy => ?_⟩
    · rcases List.mem_cons.mp hq with rfl | hq
      · exact ⟨hp, d.z⟩
      · rw [List.mem_singleton.mp hq]
        decide +kernel
    · exact List.nodup_cons.mpr ⟨fun h => pg (List.mem_singleton.mp h), by simp⟩
    · rcases List.mem_cons.mp hx with rfl | hx
      · rcases List.mem_cons.mp hy with rfl | hy
        · exact wayS_self _
        · rw [List.mem_singleton.mp hy]; exact g_way _ hp
      · rw [List.mem_singleton.mp hx]
        rcases List.mem_cons.mp hy with rfl | hy
        · rw [wayS_comm]; exact g_way _ hp
        · rw [List.mem_singleton.mp hy]; exact wayS_self _
theorem badF_no {A : Files} (t : Tok A) (wf : wayFree A) : badF A = false := by
  unfold badF
  rw [List.any_eq_false]
  intro x hx
  have hf : isFold A x = false := by
    unfold isFold
    rw [List.any_eq_false]
    intro y hy e
    have := wf x hx y hy
    unfold wayS at this
    rw [e] at this
    cases this
  rw [(pth_ok x (t.key hx)).2.2.1, hf]
  simp
/-- a list of texts == [] -/
theorem strs_eq {K : PySem.W.Frag} {G : Hp} {D q : Addr} {ys : List V} {xs : List Str} {Q : VK} (al : All2 (fun y x => y = V.str x) ys xs) (ok : ∀ x ∈ xs, okS x) (eD : G D = some (.lst ys)) (eq : G q = some (.lst [])) (k : Q (.bl (decide (xs = []))) G) : rEqD K (.ref D) (.ref q) G Q := by
  have e : ys = xs.map V.str := List.ext_getElem? fun i => by
    rw [List.getElem?_map]
    cases h : xs[i]? with
    | none => exact List.getElem?_eq_none (by rw [al.1]; exact List.getElem?_eq_none_iff.mp h)
    | some x =>
      cases h2 : ys[i]? with
      | none => exact absurd (List.getElem?_eq_none_iff.mp h2) (by rw [al.1]; have := (List.getElem?_eq_some_iff.mp h).1; omega)
      | some y => rw [al.2 i y x h2 h]; rfl
  subst e
  have pl : Pl 2 (.list (xs.map PyData.str)) = true := by
    show (xs.map PyData.str).all (Pl 1) = true
    exact pl_strs ok
  have pe : Pl 2 (.list []) = true := rfl
  refine ⟨_, _, .lst (SqL.of eD) (dp_strs xs), .lst (SqL.of eq) .nil, pl_shaped pl (by decide), by decide +kernel, ?_⟩
  have : PyData.eqv (.list (xs.map PyData.str)) (.list []) = decide (xs = []) := by
    rw [Bool.eq_iff_iff, decide_eq_true_iff, pl_eqv 2 _ _ pl pe, PyData.list.injEq, List.map_eq_nil_iff]
  rw [this]
  exact k
theorem lying_nil {s : Sta} : lyingOf s = [] ↔ ∀ x ∈ keysF s.S, lk s.W x = lk s.S x := by
  unfold lyingOf
  rw [List.filter_eq_nil_iff]
  constructor
  · intro h x hx
    refine Classical.byContradiction fun z => ?_
    have hp : x ∈ paths s.S s.W := mem_paths (.inl hx)
    have hs := (lk_iff s.S x).mpr hx
    have d : diffB s.S s.W x = true := by unfold diffB; simpa using fun e => z e.symm
    have hm : (whatOf s.S s.W x, x) ∈ chg s.S s.W := by
      rw [← chg_law]
      exact List.mem_map.mpr ⟨x, List.mem_filter.mpr ⟨hp, d⟩, rfl⟩
    have := h _ hm
    have w : whatOf s.S s.W x ≠ "come" := by
      unfold whatOf
      obtain ⟨v, e⟩ := Option.isSome_iff_exists.mp hs
      rw [e, if_neg (by exact Bool.false_ne_true)]
      split <;> decide +kernel
    simp [w] at this
  · intro h r hr
    rw [← chg_law] at hr
    obtain ⟨x, hx, rfl⟩ := List.mem_map.mp hr
    obtain ⟨_, d⟩ := List.mem_filter.mp hx
    have hn : x ∉ keysF s.S := fun hk => by
      unfold diffB at d
      rw [h x hk] at d
      simp at d
    have e : lk s.S x = none := by
      cases e : lk s.S x with
      | none => rfl
      | some v => exact absurd ((lk_iff s.S x).mp (by rw [e]; rfl)) hn
    have w : whatOf s.S s.W x = "come" := by
      unfold whatOf
      rw [e]
      rfl
    simp [w]
theorem clean_eq {s : Sta} (hL : (keysF s.L).Nodup) (hS : (keysF s.S).Nodup) : cleanB s = (eqF s.S s.L && decide ((keysF s.S).filter (fun x => !decide (lk s.W x = lk s.S x)) = [])) := by
  unfold cleanB
  have e1 : decide (chg s.L s.S = []) = eqF s.S s.L := by
    rw [eqF_chg hS hL, decide_eq_decide, chg_nil, chg_nil]
    constructor
    · exact fun h p hp => (h p (mem_paths ((List.mem_append.mp ((mem_so _ _).mp hp)).symm))).symm
    · exact fun h p hp => (h p (mem_paths ((List.mem_append.mp ((mem_so _ _).mp hp)).symm))).symm
  rw [e1]
  congr 1
  rw [decide_eq_decide, lying_nil, List.filter_eq_nil_iff]
  simp
/-- what a stage may not move to, by the loose ones' paths -/
def hitB (A : Files) (x : Str) : Bool := (lk A x).isSome || way A x
theorem badM_eq {s : Sta} {A : Files} : (!badM s A) = (cleanB s && decide ((keysF (looseOf s)).filter (hitB A) = [])) := by
  unfold badM hitB
  rw [Bool.not_or, Bool.not_not]
  congr 1
  rw [Bool.eq_iff_iff, decide_eq_true_iff, List.filter_eq_nil_iff, Bool.not_eq_true', List.any_eq_false]
  constructor
  · intro h x hx
    obtain ⟨q, hq, rfl⟩ := List.mem_map.mp hx
    exact h q hq
  · intro h q hq
    exact h q.1 (List.mem_map.mpr ⟨q, hq, rfl⟩)
abbrev σF (d r ow pa : Addr) (so : Int) (p q z : Str) (k t l : Addr) (g fi lo cl : Option V) : L2.St := [some (.ref d), some (.ref r), some (.ref ow), some (.ref pa), some (.int so), some (.str p), some (.str q), some (.str z), some (.ref k), some (.ref t), some (.ref l), g, fi, lo, none, cl, none, none]
section
variable {P : Program} {w : World} {K : PySem.W.Frag} {mg : Str → Option Value} {base : Heap} {T : Tb} {C CP CG CS : Addr} {M : MD} {N : LD}
variable {f cm : Addr} {A : Around} {outer : List Env} {s0 : Shared} {H0 : Hp} {E : XK}
theorem blk10e (m : Ms P w K mg base T C CP CG CS M) (l : La P w K mg base T CS N) (bm : LamX.TabB base mg cm T.m) (hr : Room 26 (A.deeper (envOfC "_law_deed" (defScope sDeed) s0.heap.objs.size f (.ref cm)))) :
    ∃ t, PSs (deedCx P w K mg base f cm A outer s0 H0 E) ((ifBody 10).drop 4) t ∧ ∀ (D : Ends) (d ow pa la st wk fi lo : Addr) (so : Int) (p q z : Str) (H : Hp) (s : Sta), D8 C T H s ow la st wk → Dr p q z →
      H fi = some (.dK (fk (filesOf p z))) → fi ∉ s.ad ∧ ow ≠ fi → H lo = some (.dK (fk (looseOf s))) → Out8 C T H s ow (D.rt (.bl true)) → t D (σF d s.r ow pa so p q z wk st la (some (.bl (!badM s (filesOf p z)))) (some (.ref fi)) (some (.ref lo)) (some (.bl (cleanB s)))) H := by
  have hu := hu_of hr
  refine ⟨_, pss_cons (ps_if (pt_val (pv 11)) (pss_one (ps_asg (pe_tup (pa_cons (pv 12) (pa_cons (pv 12) (pa_cons (pe_callTy (call_dictP rfl) (by rfl) m.Y.dict (by decide +kernel) (pa_cons (pe_op op_cat (LiI.pe_listItems rfl (pv 12) (by rfl) m.Y.list (by decide +kernel)) (LiI.pe_listItems rfl (pv 13) (by rfl) m.Y.list (by decide +kernel))) pa_nil)) pa_nil)))) (pg_tup rfl (pgs_cons (pg_sub (pv 2) pe_str (set_dict hu)) (pgs_cons (pg_sub (pv 2) pe_str (set_dict hu)) (pgs_cons (pg_sub (pv 2) pe_str (set_dict hu)) pgs_nil)))))) pss_nil)
      (pss_one (ps_ret (pe_cmpR op_eq (pe_cmpR op_ne (tdT m bm l.t hr) pe_str (nomark _)) (pv 11) (nomark _)))), fun D d ow pa la st wk fi lo so p q z H s a dr ef nf el kr => ?_⟩
  obtain ⟨n1, n2, n3⟩ := a.m.l3
  obtain ⟨tA, wA⟩ := files_tok dr
  have bA := badF_no tA wA
  generalize filesOf p z = A at ef tA wA bA ⊢
  cases hb : badM s A with
  | true =>
    refine ⟨_, rfl, _, rfl, iteF ⟨a.tk, fun G w1 => ⟨s, .ref fi, rfl, a.sa.go w1, rfl, s, fi, A, rfl, a.sa.go w1, a.iv.sok, w1.at ef, tA.fok, nf.1, w1.2, fun _ H' g => ec_G m.X ⟨rfl, _, rfl, rfl, ?_⟩, fun h => absurd h (by rw [hb]; decide), fun h => absurd h (by rw [hb]; decide)⟩⟩⟩
    exact kr H' s la st wk ((DStp.go w1).trans (DStp.go g)) ((a.go w1).go g)
  | false =>
    have hno : ∀ x ∈ keysF (looseOf s), hitB A x = false := by
      have := badM_eq (s := s) (A := A)
      rw [hb] at this
      have := (Bool.and_eq_true _ _).mp this.symm
      have := List.filter_eq_nil_iff.mp (of_decide_eq_true this.2)
      exact fun x hx => by simpa using this x hx
    have tl : Tok (looseOf s) := a.iv.tw.sub List.filter_sublist
    have nd : (keysF (A ++ looseOf s)).Nodup := by
      unfold keysF
      rw [List.map_append]
      refine List.nodup_append.mpr ⟨tA.nd, tl.nd, fun x hx y hy e => ?_⟩
      subst e
      have h1 := hno x hy
      unfold hitB at h1
      rw [(lk_iff A x).mpr hx] at h1
      cases h1
    refine ⟨_, rfl, _, rfl, iteT ⟨_, rfl, _, rfl, _, rfl, fi, _, rfl, ef, fun G1 l1 ts1 mo1 hl1 ht1 hn1 el1 pr1 => ⟨_, rfl, lo, _, rfl, mo1 _ _ el, fun G2 l2 ts2 mo2 hl2 ht2 hn2 el2 pr2 => ?_⟩⟩⟩
    have w1 : Go T H G1 := ⟨fun b u e _ _ => mo1 b u e, a.tk.ext mo1⟩
    have w2 : Go T G1 G2 := ⟨fun b u e _ _ => mo2 b u e, w1.2.ext mo2⟩
    have g2 := w1.trans w2
    have lnA : ts1.length = A.length := by rw [Paired.length pr1, fkn]
    have lnL : ts2.length = (looseOf s).length := by rw [Paired.length pr2, fkn]
    have z1 := tA.fok.n
    have z2 := tl.fok.n
    refine ⟨l1, l2, _, _, rfl, rfl, mo2 _ _ el1, el2, by rw [List.length_map, List.length_map, lnA, lnL, sizeLine_eq]; omega, fun r hr => ?_⟩
    have w3 : Go T G2 (upd G2 r (.lst (ts1.map V.ref ++ ts2.map V.ref))) := go_upd g2.2 hr
    have mo3 : ∀ b o, G2 b = some o → upd G2 r (.lst (ts1.map V.ref ++ ts2.map V.ref)) b = some o := fun b o e => by rw [upd_ne (ne_of_none e hr)]; exact e
    have er : upd G2 r (.lst (ts1.map V.ref ++ ts2.map V.ref)) r = some (.lst ((ts1 ++ ts2).map V.ref)) := by rw [upd_same, List.map_append]
    generalize upd G2 r (.lst (ts1.map V.ref ++ ts2.map V.ref)) = G3 at w3 mo3 er ⊢
    have pr3 : Paired (fun p (kv : Key × V) => SqT K G3 p [kV kv.1, kv.2]) (ts1 ++ ts2) (fk (A ++ looseOf s)) := by
      have q2 : ∀ {l1 : List Addr} {l2 : List (Key × V)}, Paired (fun (t : Addr) (q : Key × V) => G2 t = some (.tup [kV q.1, q.2])) l1 l2 → Paired (fun p (kv : Key × V) => SqT K G3 p [kV kv.1, kv.2]) l1 l2 := by
        intro l1 l2 h
        induction h with
        | nil => exact .nil
        | cons h _ ih => exact .cons (SqT.of (mo3 _ _ h)) ih
      have q1 : ∀ {l1 : List Addr} {l2 : List (Key × V)}, Paired (fun (t : Addr) (q : Key × V) => G1 t = some (.tup [kV q.1, q.2])) l1 l2 → Paired (fun p (kv : Key × V) => SqT K G3 p [kV kv.1, kv.2]) (l1 ++ ts2) (l2 ++ fk (looseOf s)) := by
        intro l1 l2 h
        induction h with
        | nil => exact q2 pr2
        | cons h _ ih => exact .cons (SqT.of (mo3 _ _ (mo2 _ _ h))) ih
      rw [show fk (A ++ looseOf s) = fk A ++ fk (looseOf s) by unfold fk; rw [List.map_append]]
      exact q1 pr1
    refine ⟨r, _, _, rfl, SqL.of er, pr3, fun k2 hk2 => ?_⟩
    rw [merge_fk nd]
    have g3 := g2.trans w3
    have w4 : Go T G3 (upd G3 k2 (.dK (fk (A ++ looseOf s)))) := go_upd g3.2 hk2
    have ek2 : upd G3 k2 (.dK (fk (A ++ looseOf s))) k2 = some (.dK (fk (A ++ looseOf s))) := upd_same
    have fk2 : Fresh H k2 := fresh_of g3 hk2
    generalize upd G3 k2 (.dK (fk (A ++ looseOf s))) = G4 at w4 ek2 ⊢
    have g4 := g3.trans w4
    refine ⟨by show 3 ≤ sizeLine; decide, fun tt htt => ?_⟩
    have w5 : Go T G4 (upd G4 tt (.tup [.ref fi, .ref fi, .ref k2])) := go_upd g4.2 htt
    have et : upd G4 tt (.tup [.ref fi, .ref fi, .ref k2]) tt = some (.tup [.ref fi, .ref fi, .ref k2]) := upd_same
    have ek2 := w5.at ek2
    have gg := g4.trans w5
    generalize upd G4 tt (.tup [.ref fi, .ref fi, .ref k2]) = G5 at w5 et ek2 gg ⊢
    have ef5 := gg.at ef
    refine ⟨tt, _, rfl, SqT.of et, rfl, _, _, rfl, _, rfl, ow, _, rfl, DPut.k (k := Sum.inr "last") (gg.at a.od.e) (by show 3 < sizeLine; decide), ?_⟩
    rw [od_l]
    obtain ⟨a1, st1⟩ := (a.m.go gg).set ef5 (gg.at a.od.et) (gg.at a.od.ek) nf n2 n3
    refine ⟨_, _, rfl, _, rfl, ow, _, rfl, DPut.k (k := Sum.inr "staged") a1.od.e (by show 3 < sizeLine; decide), ?_⟩
    rw [od_s]
    obtain ⟨a2, st2⟩ := a1.set a1.od.el a1.od.el a1.od.ek nf nf n3
    have ek2' : upd (upd G5 ow (.dK (odK fi st wk))) ow (.dK (odK fi fi wk)) k2 = some (.dK (fk (A ++ looseOf s))) := by rw [upd_ne (Ne.symm (a.m.fresh fk2).2), upd_ne (Ne.symm (a.m.fresh fk2).2)]; exact ek2
    refine ⟨_, _, rfl, _, rfl, ow, _, rfl, DPut.k (k := Sum.inr "work") a2.od.e (by show 3 < sizeLine; decide), rfl, ?_⟩
    rw [od_w]
    obtain ⟨a3, st3⟩ := a2.set a2.od.el a2.od.et ek2' nf nf (a.m.fresh fk2)
    refine ⟨a3.tk, fun G w1 => ⟨s, .ref fi, rfl, a3.sa.go w1, rfl, s, fi, A, rfl, a3.sa.go w1, a.iv.sok, w1.at a3.od.el, tA.fok, nf.1, w1.2, fun h => absurd h (by rw [hb]; decide), fun _ h => absurd h (by rw [bA]; decide), fun _ _ H' d1 d2 d3 st4 sa4 => ⟨rfl, _, rfl, rfl, ?_⟩⟩⟩
    refine kr H' { s with dl := d1, ds := d2, dw := d3, L := A, S := A, W := A ++ looseOf s } fi fi k2 ((((((DStp.go gg).trans st1).trans st2).trans st3).trans (DStp.go w1)).trans (DStp.stp st4)) (M8.d ((a3.go w1).stp st4 sa4) ⟨tA, tA, ⟨fun q hq => ?_, nd⟩, wA, ?_, a.iv.pp⟩)
    · rcases List.mem_append.mp hq with h | h
      · exact tA.k q h
      · exact tl.k q h
    · have sub : ∀ x ∈ keysF (looseOf s), x ∈ keysF s.W := fun x hx => ((List.filter_sublist (l := s.W)).map _).subset hx
      have cross : ∀ x ∈ keysF A, ∀ y ∈ keysF (looseOf s), wayS y x = false := fun x hx y hy => by
        have := hno y hy
        unfold hitB at this
        exact way_no.mp (Bool.or_eq_false_iff.mp this).2 x hx
      intro x hx y hy
      unfold keysF at hx hy
      rw [List.map_append] at hx hy
      rcases List.mem_append.mp hx with h1 | h1
      · rcases List.mem_append.mp hy with h2 | h2
        · exact wA x h1 y h2
        · rw [wayS_comm]; exact cross x h1 y h2
      · rcases List.mem_append.mp hy with h2 | h2
        · exact cross y h2 x h1
        · exact a.iv.fw x (sub x h1) y (sub y h2)
end
end Sg
end Text_S39
section Text_S40
set_option Elab.async false
set_option linter.all false
set_option maxRecDepth 100000
set_option maxHeartbeats 1000000
namespace Sg
open PySem PySem.Spec PyProof.Rows L2 Gx GxR LamY LamZ
section
variable {P : Program} {w : World} {K : PySem.W.Frag} {mg : Str → Option Value} {base : Heap} {T : Tb} {C CP CG CS : Addr} {M : MD} {N : LD}
variable {f cm : Addr} {A : Around} {outer : List Env} {s0 : Shared} {H0 : Hp} {E : XK}
theorem blk10d (m : Ms P w K mg base T C CP CG CS M) (l : La P w K mg base T CS N) (bm : LamX.TabB base mg cm T.m) (hr : Room 26 (A.deeper (envOfC "_law_deed" (defScope sDeed) s0.heap.objs.size f (.ref cm)))) :
    ∃ t, PSs (deedCx P w K mg base f cm A outer s0 H0 E) ((ifBody 10).drop 3) t ∧ ∀ (D : Ends) (d ow pa la st wk fi lo : Addr) (so : Int) (p q z : Str) (H : Hp) (s : Sta), D8 C T H s ow la st wk → Dr p q z →
      H fi = some (.dK (fk (filesOf p z))) → fi ∉ s.ad ∧ ow ≠ fi → H lo = some (.dK (fk (looseOf s))) → Out8 C T H s ow (D.rt (.bl true)) → t D (σF d s.r ow pa so p q z wk st la none (some (.ref fi)) (some (.ref lo)) (some (.bl (cleanB s)))) H := by
  have hu := hu_of hr
  obtain ⟨t2, h2, k2⟩ := blk10e (f := f) (cm := cm) (A := A) (outer := outer) (s0 := s0) (H0 := H0) (E := E) m l bm hr
  refine ⟨_, pss_cons (ps_set (i := 11) scD.nd rfl (Or.inl rfl) (pe_and (pv 15) (pe_one (pe_cmpR (op_eqDK K rfl hr.units) (pe_lock (pe_lc (own := [("one", 14)]) (g := gName 14) rfl scD.nd (pi_keys (pv 13)) (blkOk_by (N := ND) (sc := defScope sDeed) (by decide +kernel)) (fun _ _ _ _ _ => pg_name (i := 14) scD.nd rfl (Or.inl rfl)) (fun _ _ _ _ _ => pts_one (PW.pt (pw_or (pt_cmp (pc_din hu (pv 14) (pv 12))) (pw_or1 (pt_val (pe_call l.GW (hr.mono (by decide)) rfl l.mW l.kW l.bW .nil pass0 (pa_cons (pv 12) (pa_cons (pv 14) pa_nil)))))))) (fun _ _ _ _ _ => pv 14))) (pe_lst pa_nil) (nomark _))))) h2, fun D d ow pa la st wk fi lo so p q z H s a dr ef nf el kr => ?_⟩
  have fin : ∀ G, Go T H G → t2 D (σF d s.r ow pa so p q z wk st la (some (.bl (!badM s (filesOf p z)))) (some (.ref fi)) (some (.ref lo)) (some (.bl (cleanB s)))) G := fun G g => k2 D d ow pa la st wk fi lo so p q z G s (a.go g) dr (g.at ef) nf (g.at el) (kr.go g)
  rw [badM_eq] at fin
  obtain ⟨tA, wA⟩ := files_tok dr
  generalize filesOf p z = A at ef tA wA fin ⊢
  have tl : Tok (looseOf s) := a.iv.tw.sub List.filter_sublist
  cases hc : cleanB s with
  | false =>
    rw [hc] at fin
    exact ⟨_, rfl, _, rfl, iteF (fin H (GoE.refl a.tk))⟩
  | true =>
    rw [hc] at fin
    refine ⟨_, rfl, _, rfl, iteT ?_⟩
    refine lcK (i := 14) (A := looseOf s) (T := T) (Q := fun y G => tLst tNil (σF d s.r ow pa so p q z wk st la none (some (.ref fi)) (some (.ref lo)) (some (.bl true))) G fun y2 H3 => rEqD K y y2 H3 fun x H4 => t2 D (σF d s.r ow pa so p q z wk st la (some x) (some (.ref fi)) (some (.ref lo)) (some (.bl true))) H4) (hitB A) (fun _ y x => y = V.str x) (fun _ _ _ _ _ e => e) a.tk el (by have := tl.fok.n; omega) (fun G kk h g q => ⟨_, rfl, q⟩) (fun x hx G kk od g e q => ?_) (fun x hx hb G Q' od g e q => ⟨_, rfl, q _ G (GoE.refl g.2) rfl⟩) fun G D2 ys g hD eD al => ?_
    · have dA : DAt G fi A := dat_lock ef el g e
      refine ⟨_, rfl, _, rfl, fi, _, rfl, dA.get x, _, rfl, ?_⟩
      cases eA : lk A x with
      | some v =>
        have := q G (GoE.refl g.2)
        rw [show hitB A x = true by unfold hitB; rw [eA]; rfl] at this
        exact iteT this
      | none =>
        have hw : hitB A x = way A x := by unfold hitB; rw [eA]; rfl
        rw [hw] at q
        exact iteF ⟨_, rfl, _, rfl, fi, x, A, rfl, dA, tA.fok.str, lok100 (pth_ok x (tl.key hx)).1, g.2, fun G' g' => ⟨_, rfl, q G' g'⟩⟩
    · refine ⟨by show 0 ≤ sizeLine; decide, fun qq hq => ?_⟩
      refine strs_eq al (fun x hx => (pth_ok x (tl.key (List.mem_filter.mp hx).1)).2.1) (by rw [upd_ne (ne_of_none eD hq)]; exact eD) upd_same ?_
      exact fin _ (g.trans (go_upd g.2 hq))
theorem blk10c (m : Ms P w K mg base T C CP CG CS M) (l : La P w K mg base T CS N) (bm : LamX.TabB base mg cm T.m) (hr : Room 26 (A.deeper (envOfC "_law_deed" (defScope sDeed) s0.heap.objs.size f (.ref cm)))) :
    ∃ t, PSs (deedCx P w K mg base f cm A outer s0 H0 E) ((ifBody 10).drop 2) t ∧ ∀ (D : Ends) (d ow pa la st wk fi lo : Addr) (so : Int) (p q z : Str) (H : Hp) (s : Sta), D8 C T H s ow la st wk → Dr p q z →
      H fi = some (.dK (fk (filesOf p z))) → fi ∉ s.ad ∧ ow ≠ fi → H lo = some (.dK (fk (looseOf s))) → Out8 C T H s ow (D.rt (.bl true)) → t D (σF d s.r ow pa so p q z wk st la none (some (.ref fi)) (some (.ref lo)) none) H := by
  have hu := hu_of hr
  obtain ⟨t2, h2, k2⟩ := blk10d (f := f) (cm := cm) (A := A) (outer := outer) (s0 := s0) (H0 := H0) (E := E) m l bm hr
  refine ⟨_, pss_cons (ps_set (i := 15) scD.nd rfl (Or.inl rfl) (pe_and (pe_cmpR (op_eqF (by have := hr.units; exact Nat.lt_of_le_of_lt (Nat.le_add_right _ 64) this)) (pv 9) (pv 10) (nomark _)) (pe_one (pe_cmpR (op_eqDK K rfl hr.units) (pe_lock (pe_lc (own := [("one", 14)]) (g := gName 14) rfl scD.nd (pi_keys (pv 9)) (blkOk_by (N := ND) (sc := defScope sDeed) (by decide +kernel)) (fun _ _ _ _ _ => pg_name (i := 14) scD.nd rfl (Or.inl rfl)) (fun _ _ _ _ _ => pts_one (pt_cmpR op_ne (pe_dget1 hu (pv 8) (pv 14) ⟨rfl, rfl, rfl, rfl⟩) (pe_dget hu (pv 9) (pv 14) (fun _ _ => rfl)) (nomark _))) (fun _ _ _ _ _ => pv 14))) (pe_lst pa_nil) (nomark _))))) h2, fun D d ow pa la st wk fi lo so p q z H s a dr ef nf el kr => ?_⟩
  have fin : ∀ G, Go T H G → t2 D (σF d s.r ow pa so p q z wk st la none (some (.ref fi)) (some (.ref lo)) (some (.bl (cleanB s)))) G := fun G g => k2 D d ow pa la st wk fi lo so p q z G s (a.go g) dr (g.at ef) nf (g.at el) (kr.go g)
  rw [clean_eq a.iv.tl.nd a.iv.ts.nd] at fin
  refine ⟨_, rfl, _, rfl, st, la, s.S, s.L, rfl, rfl, a.od.et, a.od.el, _, rfl, ?_⟩
  cases hc : eqF s.S s.L with
  | false =>
    rw [hc] at fin
    exact iteF (fin H (GoE.refl a.tk))
  | true =>
    rw [hc] at fin
    refine iteT ?_
    refine lcK (i := 14) (A := s.S) (T := T) (Q := fun y G => tLst tNil (σF d s.r ow pa so p q z wk st la none (some (.ref fi)) (some (.ref lo)) none) G fun y2 H3 => rEqD K y y2 H3 fun x H4 => t2 D (σF d s.r ow pa so p q z wk st la none (some (.ref fi)) (some (.ref lo)) (some x)) H4) (fun x => !decide (lk s.W x = lk s.S x)) (fun _ y x => y = V.str x) (fun _ _ _ _ _ e => e) a.tk a.od.et (by have := a.iv.ts.fok.n; omega) (fun G kk h g q => ⟨_, rfl, q⟩) (fun x hx G kk od g e q => ?_) (fun x hx hb G Q' od g e q => ⟨_, rfl, q _ G (GoE.refl g.2) rfl⟩) fun G D2 ys g hD eD al => ?_
    · have dW : DAt G wk s.W := dat_lock a.od.ek a.od.et g e
      have dS : DAt G st s.S := dat_lock a.od.et a.od.et g e
      obtain ⟨y, eS⟩ := keys_lk hx
      have qq := q G (GoE.refl g.2)
      have gW := dW.get x
      have gS := dS.get x
      rw [eS] at gS qq
      cases eW : lk s.W x with
      | none =>
        rw [eW] at gW qq
        exact ⟨_, rfl, wk, rfl, dW.isD, _, rfl, _, gW, _, rfl, _, rfl, st, _, rfl, gS, rfl, _, rfl, qq⟩
      | some v =>
        rw [eW] at gW qq
        refine ⟨_, rfl, wk, rfl, dW.isD, _, rfl, _, gW, _, rfl, _, rfl, st, _, rfl, gS, rfl, _, rfl, ?_⟩
        show kk (!decide (V.str v = V.str y)) G
        rw [show decide (V.str v = V.str y) = decide (some v = some y) from decide_eq_decide.mpr ⟨fun e => congrArg _ (V.str.inj e), fun e => congrArg _ (Option.some.inj e)⟩]
        exact qq
    · refine ⟨by show 0 ≤ sizeLine; decide, fun qq hq => ?_⟩
      refine strs_eq al (fun x hx => (pth_ok x (a.iv.ts.key (List.mem_filter.mp hx).1)).2.1) (by rw [upd_ne (ne_of_none eD hq)]; exact eD) upd_same ?_
      exact fin _ (g.trans (go_upd g.2 hq))
theorem blk10b (m : Ms P w K mg base T C CP CG CS M) (l : La P w K mg base T CS N) (bm : LamX.TabB base mg cm T.m) (hr : Room 26 (A.deeper (envOfC "_law_deed" (defScope sDeed) s0.heap.objs.size f (.ref cm)))) :
    ∃ t, PSs (deedCx P w K mg base f cm A outer s0 H0 E) ((ifBody 10).drop 1) t ∧ ∀ (D : Ends) (d ow pa la st wk fi : Addr) (so : Int) (p q z : Str) (H : Hp) (s : Sta), D8 C T H s ow la st wk → Dr p q z →
      H fi = some (.dK (fk (filesOf p z))) → fi ∉ s.ad ∧ ow ≠ fi → Out8 C T H s ow (D.rt (.bl true)) → t D (σF d s.r ow pa so p q z wk st la none (some (.ref fi)) none none) H := by
  have hu := hu_of hr
  obtain ⟨t2, h2, k2⟩ := blk10c (f := f) (cm := cm) (A := A) (outer := outer) (s0 := s0) (H0 := H0) (E := E) m l bm hr
  refine ⟨_, pss_cons (ps_set (i := 13) scD.nd rfl (Or.inl rfl) (pe_callTy (call_dictP rfl) (by rfl) m.Y.dict (by decide +kernel) (pa_cons (pe_lock (pe_lc (own := [("one", 14)]) (g := gName 14) rfl scD.nd (pi_keys (pv 8)) (blkOk_by (N := ND) (sc := defScope sDeed) (by decide +kernel)) (fun _ _ _ _ _ => pg_name (i := 14) scD.nd rfl (Or.inl rfl)) (fun _ _ _ _ _ => pts_one (pt_cmp (pc_dnotin hu (pv 14) (pv 9)))) (fun _ _ _ _ _ => pe_tup (pa_cons (pv 14) (pa_cons (pe_dget hu (pv 8) (pv 14) (fun _ _ => rfl)) pa_nil))))) pa_nil))) h2, fun D d ow pa la st wk fi so p q z H s a dr ef nf kr => ?_⟩
  refine lcK (i := 14) (A := s.W) (T := T) (fun x => (lk s.S x).isNone) (fun G y x => PairAt G y (x, (lk s.W x).getD "")) (fun _ _ _ _ e h => h.ext e) a.tk a.od.ek (by have := a.iv.tw.fok.n; omega) (fun G kk h g q => ⟨_, rfl, q⟩) (fun x hx G kk od g e q => ?_) (fun x hx hb G Q' od g e q => ?_) fun G D2 ys g hD eD al => ?_
  · have dS : DAt G st s.S := dat_lock a.od.et a.od.ek g e
    have qq := q G (GoE.refl g.2)
    refine ⟨_, rfl, _, rfl, st, _, rfl, dS.get x, _, rfl, ?_⟩
    rw [Option.isSome_map, show (!(lk s.S x).isSome) = (lk s.S x).isNone by cases lk s.S x <;> rfl]
    exact qq
  · obtain ⟨v, hv⟩ := keys_lk hx
    have gW := DAt.get (dat_lock a.od.ek a.od.ek g e) x
    rw [hv] at gW q
    exact ⟨_, rfl, _, rfl, _, rfl, wk, _, rfl, gW, by show 2 ≤ sizeLine; decide, fun t ht => q _ _ (go_upd g.2 ht) ⟨t, rfl, upd_same⟩⟩
  · have al2 := all2_map (F := PairAt G) (f := fun x => (x, (lk s.W x).getD "")) al
    have e2 : ((keysF s.W).filter fun x => (lk s.S x).isNone).map (fun x => (x, (lk s.W x).getD "")) = looseOf s := fil_pairs _ a.iv.tw.nd
    rw [e2] at al2
    obtain ⟨ps, rfl, pr⟩ := pairs_refs (K := K) al2
    refine ⟨D2, ps, _, rfl, SqL.of eD, pr, fun lo hd => ?_⟩
    rw [merge_fk (A := looseOf s) (a.iv.tw.sub (B := looseOf s) List.filter_sublist).nd]
    have gg := g.trans (go_upd (S := []) (o := .dK (fk (looseOf s))) g.2 hd)
    exact k2 D d ow pa la st wk fi lo so p q z _ s (a.go gg) dr (gg.at ef) nf upd_same (kr.go gg)
theorem blk10 (m : Ms P w K mg base T C CP CG CS M) (l : La P w K mg base T CS N) (bm : LamX.TabB base mg cm T.m) (hr : Room 26 (A.deeper (envOfC "_law_deed" (defScope sDeed) s0.heap.objs.size f (.ref cm)))) :
    ∃ t, PS (deedCx P w K mg base f cm A outer s0 H0 E) (deedB.getD 10 noS) t ∧ ∀ (D : Ends) (d ow pa la st wk : Addr) (so : Int) (p q z : Str) (H : Hp) (s : Sta), D8 C T H s ow la st wk → Dr p q z →
      D.nx (σD d s.r ow pa so p q z wk st la none) H → Out8 C T H s ow (D.rt (.bl true)) → t D (σD d s.r ow pa so p q z wk st la none) H := by
  have hu := hu_of hr
  obtain ⟨t2, h2, k2⟩ := blk10b (f := f) (cm := cm) (A := A) (outer := outer) (s0 := s0) (H0 := H0) (E := E) m l bm hr
  refine ⟨_, ps_if (pt_cmpR op_lt (pv 4) pe_int (nomark _))
      (pss_cons (ps_set (i := 12) scD.nd rfl (Or.inr rfl) (pe_callTy (call_dictP rfl) (by rfl) m.Y.dict (by decide +kernel) (pa_cons (pe_op op_cat (pe_op op_rep (pe_lst (pa_cons (pe_tup (pa_cons (pv 5) (pa_cons (pv 7) pa_nil))) pa_nil)) (pe_callTy call_int1 (by rfl) m.Y.int (by decide +kernel) (pa_cons (pe_cmpR op_ne (pv 5) pe_str (nomark _)) pa_nil))) (pe_lst (pa_cons (pe_tup (pa_cons pe_str (pa_cons pe_str pa_nil))) pa_nil))) pa_nil)))
      h2) pss_nil, fun D d ow pa la st wk so p q z H s a dr kn kr => ?_⟩
  refine ⟨_, rfl, _, _, rfl, rfl, _, rfl, ite2 (fun e => ?_) (fun e => kn)⟩
  refine ⟨_, rfl, _, rfl, by show 2 ≤ sizeLine; decide, fun t1 ht1 => ⟨by show 1 ≤ sizeLine; decide, fun l1 hl1 => ⟨_, rfl, rfl, .inr ⟨_, rfl, ?_⟩⟩⟩⟩
  rw [strD]
  have w1 : Go T H (upd H t1 (.tup [.str p, .str z])) := go_upd a.tk ht1
  have e1 : upd H t1 (.tup [.str p, .str z]) t1 = some (.tup [.str p, .str z]) := upd_same
  generalize upd H t1 (.tup [.str p, .str z]) = G1 at w1 e1 hl1 ⊢
  have w2 : Go T G1 (upd G1 l1 (.lst [.ref t1])) := go_upd w1.2 hl1
  have m2 : ∀ b o, G1 b = some o → upd G1 l1 (.lst [.ref t1]) b = some o := fun b o e => by rw [upd_ne (ne_of_none e hl1)]; exact e
  have el1 : upd G1 l1 (.lst [.ref t1]) l1 = some (.lst [.ref t1]) := upd_same
  generalize upd G1 l1 (.lst [.ref t1]) = G2 at w2 m2 el1 ⊢
  have e1 := m2 _ _ e1
  have g2 := w1.trans w2
  have fin : ∀ (G : Hp) (fi : Addr), Go T H G → Fresh H fi → G fi = some (.dK (fk (filesOf p z))) → t2 D (σF d s.r ow pa so p q z wk st la none (some (.ref fi)) none none) G := fun G fi g ff e => k2 D d ow pa la st wk fi so p q z G s (a.go g) dr e (a.m.fresh ff) (kr.go g)
  have tail : ∀ (b : Bool), b = !decide (p = "") → ∀ l2, G2 l2 = none → True := fun _ _ _ _ => trivial
  have ndA := (files_tok dr).1.nd
  by_cases hp : p = ""
  · rw [decide_eq_true hp]
    refine ⟨l1, _, _, rfl, rfl, el1, by decide, by decide, by show 1 * 0 ≤ sizeLine; decide, fun l2 hl2 => ⟨by show 2 ≤ sizeLine; decide, fun t3 ht3 => ⟨by show 1 ≤ sizeLine; decide, fun l3 hl3 => ?_⟩⟩⟩
    have w3 : Go T G2 (upd G2 l2 (.lst [])) := go_upd g2.2 hl2
    have el2 : upd G2 l2 (.lst (List.replicate (0 : Nat) [V.ref t1]).flatten) l2 = some (.lst []) := upd_same
    change G2 l2 = none at hl2
    have q3 : upd G2 l2 (.lst (List.replicate (if (!true) = true then (1 : Int) else 0).toNat [V.ref t1]).flatten) = upd G2 l2 (.lst []) := rfl
    rw [q3] at ht3 hl3 ⊢
    generalize hG3 : upd G2 l2 (.lst []) = G3 at w3 ht3 hl3 ⊢
    have el2 : G3 l2 = some (.lst []) := by rw [← hG3]; exact upd_same
    have w4 : Go T G3 (upd G3 t3 (.tup [.str "g", .str "q"])) := go_upd w3.2 ht3
    have et3 : upd G3 t3 (.tup [.str "g", .str "q"]) t3 = some (.tup [.str "g", .str "q"]) := upd_same
    have el2 : upd G3 t3 (.tup [.str "g", .str "q"]) l2 = some (.lst []) := by rw [upd_ne (ne_of_none el2 ht3)]; exact el2
    generalize upd G3 t3 (.tup [.str "g", .str "q"]) = G4 at w4 et3 el2 hl3 ⊢
    have w5 : Go T G4 (upd G4 l3 (.lst [.ref t3])) := go_upd w4.2 hl3
    have el3 : upd G4 l3 (.lst [.ref t3]) l3 = some (.lst [.ref t3]) := upd_same
    have el2 : upd G4 l3 (.lst [.ref t3]) l2 = some (.lst []) := by rw [upd_ne (ne_of_none el2 hl3)]; exact el2
    have et3 := w5.t _ _ et3
    generalize upd G4 l3 (.lst [.ref t3]) = G5 at w5 el3 el2 et3 ⊢
    refine ⟨l2, l3, _, _, rfl, rfl, el2, el3, by show 0 + 1 ≤ sizeLine; decide, fun r hr => ?_⟩
    have w6 : Go T G5 (upd G5 r (.lst ([] ++ [.ref t3]))) := go_upd w5.2 hr
    have er : upd G5 r (.lst ([] ++ [.ref t3])) r = some (.lst ([t3].map V.ref)) := upd_same
    have et3 := w6.t _ _ et3
    generalize upd G5 r (.lst ([] ++ [.ref t3])) = G6 at w6 er et3 ⊢
    have gg := ((((g2.trans w3).trans w4).trans w5).trans w6)
    refine ⟨r, [t3], fk (filesOf p z), rfl, SqL.of er, ?_, fun fi hfi => ?_⟩
    · unfold filesOf
      rw [if_pos hp]
      exact .cons (SqT.of et3) .nil
    · rw [merge_fk ndA]
      exact fin _ fi (gg.trans (go_upd gg.2 hfi)) (fresh_of gg hfi) upd_same
  · rw [decide_eq_false hp]
    refine ⟨l1, _, _, rfl, rfl, el1, by decide, by decide, by show 1 * 1 ≤ sizeLine; decide, fun l2 hl2 => ⟨by show 2 ≤ sizeLine; decide, fun t3 ht3 => ⟨by show 1 ≤ sizeLine; decide, fun l3 hl3 => ?_⟩⟩⟩
    have w3 : Go T G2 (upd G2 l2 (.lst [.ref t1])) := go_upd g2.2 hl2
    have q3 : upd G2 l2 (.lst (List.replicate (if (!false) = true then (1 : Int) else 0).toNat [V.ref t1]).flatten) = upd G2 l2 (.lst [.ref t1]) := rfl
    rw [q3] at ht3 hl3 ⊢
    generalize hG3 : upd G2 l2 (.lst [.ref t1]) = G3 at w3 ht3 hl3 ⊢
    have el2 : G3 l2 = some (.lst [.ref t1]) := by rw [← hG3]; exact upd_same
    have e1 := w3.t _ _ e1
    have w4 : Go T G3 (upd G3 t3 (.tup [.str "g", .str "q"])) := go_upd w3.2 ht3
    have et3 : upd G3 t3 (.tup [.str "g", .str "q"]) t3 = some (.tup [.str "g", .str "q"]) := upd_same
    have e1 := w4.t _ _ e1
    have el2 : upd G3 t3 (.tup [.str "g", .str "q"]) l2 = some (.lst [.ref t1]) := by rw [upd_ne (ne_of_none el2 ht3)]; exact el2
    generalize upd G3 t3 (.tup [.str "g", .str "q"]) = G4 at w4 et3 el2 hl3 e1 ⊢
    have w5 : Go T G4 (upd G4 l3 (.lst [.ref t3])) := go_upd w4.2 hl3
    have el3 : upd G4 l3 (.lst [.ref t3]) l3 = some (.lst [.ref t3]) := upd_same
    have el2 : upd G4 l3 (.lst [.ref t3]) l2 = some (.lst [.ref t1]) := by rw [upd_ne (ne_of_none el2 hl3)]; exact el2
    have et3 := w5.t _ _ et3
    have e1 := w5.t _ _ e1
    generalize upd G4 l3 (.lst [.ref t3]) = G5 at w5 el3 el2 et3 e1 ⊢
    refine ⟨l2, l3, _, _, rfl, rfl, el2, el3, by show 1 + 1 ≤ sizeLine; decide, fun r hr => ?_⟩
    have w6 : Go T G5 (upd G5 r (.lst ([.ref t1] ++ [.ref t3]))) := go_upd w5.2 hr
    have er : upd G5 r (.lst ([.ref t1] ++ [.ref t3])) r = some (.lst ([t1, t3].map V.ref)) := upd_same
    have et3 := w6.t _ _ et3
    have e1 := w6.t _ _ e1
    generalize upd G5 r (.lst ([.ref t1] ++ [.ref t3])) = G6 at w6 er et3 e1 ⊢
    have gg := ((((g2.trans w3).trans w4).trans w5).trans w6)
    refine ⟨r, [t1, t3], fk (filesOf p z), rfl, SqL.of er, ?_, fun fi hfi => ?_⟩
    · unfold filesOf
      rw [if_neg hp]
      exact .cons (SqT.of e1) (.cons (SqT.of et3) .nil)
    · rw [merge_fk ndA]
      exact fin _ fi (gg.trans (go_upd gg.2 hfi)) (fresh_of gg hfi) upd_same
end
end Sg
end Text_S40
section Text_S41
set_option Elab.async false
set_option linter.all false
set_option maxRecDepth 100000
set_option maxHeartbeats 1000000
namespace Sg
open PySem PySem.Spec PyProof.Rows L2 Gx GxR LamY LamZ
def goneK (s : Sta) : List Str := (keysF s.S).filter fun x => (lk s.W x).isNone
theorem gone_mem {s : Sta} {x : Str} : x ∈ goneL s ↔ x ∈ goneK s := by
  unfold goneL goneK
  rw [List.mem_filter, List.mem_filter, mem_srt]
theorem gone_len (s : Sta) : (goneK s).length = (goneL s).length := by
  unfold goneL goneK
  exact ((srt_perm (keysF s.S)).filter _).length_eq.symm
theorem dropAll_filter : ∀ (l : List Str) (S : Files), dropAll S l = S.filter fun q => !decide (q.1 ∈ l)
  | [], S => by
    show S = _
    rw [List.filter_eq_self.mpr]
    intro q _
    simp
  | p :: l, S => by
    show dropAll (fDrop S p) l = _
    rw [dropAll_filter l (fDrop S p)]
    unfold fDrop
    rw [List.filter_filter]
    refine List.filter_congr fun q _ => ?_
    by_cases h1 : q.1 = p <;> by_cases h2 : q.1 ∈ l <;> simp [h1, h2]
theorem mergeK_app : ∀ (l1 l2 B : List (Key × V)), mergeK B (l1 ++ l2) = mergeK (mergeK B l1) l2
  | [], _, _ => rfl
  | q :: l1, l2, B => mergeK_app l1 l2 (putK B q.1 q.2)
theorem merge_put (W : Files) : ∀ (l : List Str) (B : Files), mergeK (fk B) (fk (pairsOf W l)) = fk (putAll W B l)
  | [], _ => rfl
  | p :: l, B => by
    show mergeK (putK (fk B) (Sum.inr p) (.str ((lk W p).getD ""))) (fk (pairsOf W l)) = _
    rw [fk_put, merge_put W l]
    rfl
theorem allS_eq {s : Sta} (nd : (keysF s.S).Nodup) : mergeK [] (fk (s.S.filter fun q => !decide (q.1 ∈ goneK s)) ++ fk (pairsOf s.W (moreL s))) = fk (allS s) := by
  have e : (s.S.filter fun q => !decide (q.1 ∈ goneK s)) = dropAll s.S (goneL s) := by
    rw [dropAll_filter]
    refine List.filter_congr fun q _ => ?_
    rw [decide_eq_decide.mpr gone_mem]
  rw [mergeK_app, e, merge_fk (((dropAll_sub (goneL s) s.S).map _).nodup nd), merge_put]
  rfl
theorem tok_putAll {W : Files} (tw : Tok W) : ∀ (l : List Str) (S : Files), (∀ p ∈ l, p ∈ keysF W) → Tok S → Tok (putAll W S l)
  | [], _, _, t => t
  | p :: l, S, h, t => by
    obtain ⟨z, hz⟩ := keys_lk (h p List.mem_cons_self)
    refine tok_putAll tw l (fPut S p ((lk W p).getD "")) (fun q hq => h q (List.mem_cons_of_mem _ hq)) (t.put (tw.key (h p List.mem_cons_self)) ?_)
    rw [hz]
    exact tw.txt hz
theorem more_sub {s : Sta} : ∀ p ∈ moreL s, p ∈ keysF s.W := fun p hp => (mem_srt _ _).mp (List.mem_filter.mp hp).1
theorem all_inv {s : Sta} (i : Inv8 s) : Inv8 { s with S := allS s } := by
  refine ⟨i.tl, tok_putAll i.tw _ _ more_sub (i.ts.sub (dropAll_sub _ _)), i.tw, i.fw.sub fun x hx => ?_, i.fw, i.pp⟩
  rcases keys_putAll hx with h | h
  · exact more_sub x h
  · rw [dropAll_filter] at h
    obtain ⟨q, hq, rfl⟩ := List.mem_map.mp h
    obtain ⟨h1, h2⟩ := List.mem_filter.mp hq
    have hn : q.1 ∉ goneK s := fun z => by
      have := gone_mem.mpr z
      simp [this] at h2
    refine (lk_iff s.W q.1).mp ?_
    cases e : lk s.W q.1 with
    | some v => rfl
    | none => exact absurd (List.mem_filter.mpr ⟨List.mem_map.mpr ⟨q, h1, rfl⟩, by rw [e]; rfl⟩) hn
abbrev σG (d r ow pa : Addr) (so : Int) (p q z : Str) (k t l : Addr) (go mo : Option V) : L2.St := [some (.ref d), some (.ref r), some (.ref ow), some (.ref pa), some (.int so), some (.str p), some (.str q), some (.str z), some (.ref k), some (.ref t), some (.ref l), none, none, none, none, none, go, mo]
theorem strs_at {ys : List V} {xs : List Str} (al : All2 (fun y x => y = V.str x) ys xs) : ys = xs.map V.str := List.ext_getElem? fun i => by
  rw [List.getElem?_map]
  cases h : xs[i]? with
  | none => exact List.getElem?_eq_none (by rw [al.1]; exact List.getElem?_eq_none_iff.mp h)
  | some x =>
    cases h2 : ys[i]? with
    | none => exact absurd (List.getElem?_eq_none_iff.mp h2) (by rw [al.1]; have := (List.getElem?_eq_some_iff.mp h).1; omega)
    | some y => rw [al.2 i y x h2 h]; rfl
section
variable {P : Program} {w : World} {K : PySem.W.Frag} {mg : Str → Option Value} {base : Heap} {T : Tb} {C CP CG CS : Addr} {M : MD} {N : LD}
variable {f cm : Addr} {A : Around} {outer : List Env} {s0 : Shared} {H0 : Hp} {E : XK}
def E13 : Expr := match deedB.getD 13 noS with
  | .Assign _ v _ => v
  | _ => noE
section
variable {P : Program} {w : World} {K : PySem.W.Frag} {mg : Str → Option Value} {base : Heap} {T : Tb} {C CP CG CS : Addr} {M : MD} {N : LD}
variable {f cm : Addr} {A : Around} {outer : List Env} {s0 : Shared} {H0 : Hp} {E : XK}
theorem ex13 (m : Ms P w K mg base T C CP CG CS M) (l : La P w K mg base T CS N) (bm : LamX.TabB base mg cm T.m) (hr : Room 26 (A.deeper (envOfC "_law_deed" (defScope sDeed) s0.heap.objs.size f (.ref cm)))) :
    ∃ t, PE (deedCx P w K mg base f cm A outer s0 H0 E) E13 t ∧ ∀ (Q : VK) (d ow pa la st wk gl ml : Addr) (so : Int) (p q z : Str) (H : Hp) (s : Sta), D8 C T H s ow la st wk →
      H gl = some (.lst ((goneK s).map V.str)) → gl ∉ s.ad → ow ≠ gl → H ml = some (.lst ((moreL s).map V.str)) → ml ∉ s.ad → ow ≠ ml → (∀ G t2, Go T H G → Fresh H t2 → G t2 = some (.dK (fk (allS s))) → Q (.ref t2) G) → t (σG d s.r ow pa so p q z wk st la (some (.ref gl)) (some (.ref ml))) H Q := by
  have hu := hu_of hr
  refine ⟨_, pe_callTy (call_dictP rfl) (by rfl) m.Y.dict (by decide +kernel) (pa_cons (pe_op op_cat (pe_lock (pe_lc (own := [("one", 14)]) (g := gName 14) rfl scD.nd (pi_keys (pv 9)) (blkOk_by (N := ND) (sc := defScope sDeed) (by decide +kernel)) (fun _ _ _ _ _ => pg_name (i := 14) scD.nd rfl (Or.inl rfl)) (fun _ _ _ _ _ => pts_one (pt_cmpR (op_notIn_seqK K rfl) (pv 14) (pv 16) (by rfl))) (fun _ _ _ _ _ => pe_tup (pa_cons (pv 14) (pa_cons (pe_dget hu (pv 9) (pv 14) (fun _ _ => rfl)) pa_nil))))) (pe_lc (own := [("one", 14)]) (g := gName 14) (tt := tYes) rfl scD.nd (pi_listK K rfl (pv 17)) (blkOk_by (N := ND) (sc := defScope sDeed) (by decide +kernel)) (fun _ _ _ _ _ => pg_name (i := 14) scD.nd rfl (Or.inl rfl)) (fun _ _ _ _ _ => pts_nil) (fun _ _ _ _ _ => pe_tup (pa_cons (pv 14) (pa_cons (pe_dget hu (pv 8) (pv 14) (fun _ _ => rfl)) pa_nil))))) pa_nil), fun Q d ow pa la st wk gl ml so p q z H s a eg ng og em nm om kq => ?_⟩
  have sl := a.iv.ts.fok.n
  have wl := a.iv.tw.fok.n
  have ml10 : (moreL s).length ≤ 10 := by
    have h1 := List.length_filter_le (moreB s) (srt (keysF s.W))
    have h2 := (srt_perm (keysF s.W)).length_eq
    rw [keysF_len] at h2
    unfold moreL
    omega
  show tLockE (tLc (iKeys (tVar 9)) (gName 14) (tTest (tOp (rIn K true) (tVar 14) (tVar 16))) (tTup (tCons (tVar 14) (tCons (tDGet (tVar 9) (tVar 14)) tNil))) [14]) (σG d s.r ow pa so p q z wk st la (some (.ref gl)) (some (.ref ml))) H (fun x H1 => tLc (iList K (tVar 17)) (gName 14) tYes (tTup (tCons (tVar 14) (tCons (tDGet (tVar 8) (tVar 14)) tNil))) [14] (σG d s.r ow pa so p q z wk st la (some (.ref gl)) (some (.ref ml))) H1 fun y H2 => rCat x y H2 fun v H3 => ∃ (a : Addr) (ps : List Addr) (kvs : List (Key × V)), [v] = [V.ref a] ∧ SqL K H3 a (ps.map V.ref) ∧ Paired (fun p kv => SqT K H3 p [kV kv.1, kv.2]) ps kvs ∧ ∀ p, H3 p = none → Q (.ref p) (upd H3 p (.dK (mergeK [] kvs))))
  refine lcK (i := 14) (A := s.S) (T := T) (fun x => !decide (x ∈ goneK s)) (fun G y x => PairAt G y (x, (lk s.S x).getD "")) (fun _ _ _ _ e h => h.ext e) a.tk a.od.et (by omega) (fun G kk h g q => ⟨_, rfl, q⟩) (fun x hx G kk od g e q => ?_) (fun x hx hb G Q' od g e q => ?_) fun G1 D1 ys g1 hD1 eD1 al => ?_
  · have qq := q G (GoE.refl g.2)
    have eg1 : G gl = some (.lst ((goneK s).map V.str)) := g.at eg (by
      intro z
      rw [List.mem_singleton] at z
      rw [z, a.od.et] at eg
      cases eg)
    refine ⟨_, rfl, _, rfl, gl, _, rfl, .inl (SqL.of eg1), rfl, flat_strs _, _, rfl, ?_⟩
    rw [inV_str]
    exact qq
  · obtain ⟨v, hv⟩ := keys_lk hx
    have gS := DAt.get (dat_lock a.od.et a.od.et g e) x
    rw [hv] at gS q
    exact ⟨_, rfl, _, rfl, _, rfl, st, _, rfl, gS, by show 2 ≤ sizeLine; decide, fun t ht => q _ _ (go_upd g.2 ht) ⟨t, rfl, upd_same⟩⟩
  have al1 := all2_map (F := PairAt G1) (f := fun x => (x, (lk s.S x).getD "")) al
  have e1 : ((keysF s.S).filter fun x => !decide (x ∈ goneK s)).map (fun x => (x, (lk s.S x).getD "")) = s.S.filter fun q => !decide (q.1 ∈ goneK s) := fil_pairs _ a.iv.ts.nd
  rw [e1] at al1
  refine ⟨_, rfl, ml, rfl, ⟨_, SqL.of (g1.at em)⟩, fun D2 hD2 => ?_⟩
  have w2 : Go T G1 (upd G1 D2 (.lst [])) := go_upd g1.2 hD2
  have nw : ∀ {G : Hp}, GoE T [D2] (upd G1 D2 (.lst [])) G → Go T G1 G := fun g => GoE.news w2 g fun b hb => by rw [List.mem_singleton.mp hb]; exact fresh_none hD2
  refine lc_ov (T := T) (fun _ => true) (fun G y x => PairAt G y (x, (lk s.W x).getD "")) (fun _ _ _ _ e h => h.ext e) (ov_l (K := K) (a := ml) (xs := (moreL s).map V.str)) g1.2 hD2 (fun G g => SqL.of ((nw g).at (g1.at em))) (by omega) (fun x hx G kk g q => q G (GoE.refl g.2)) (fun x hx hb G Q' g q => ?_) fun G2 zs g2 eD2 al2 => ?_
  · obtain ⟨v, hv⟩ := keys_lk (more_sub x hx)
    have gW := DAt.get (.inl ((nw g).at (g1.at a.od.ek))) x
    rw [hv] at gW q
    exact ⟨_, rfl, _, rfl, _, rfl, wk, _, rfl, gW, by show 2 ≤ sizeLine; decide, fun t ht => q _ _ (go_upd g.2 ht) ⟨t, rfl, upd_same⟩⟩
  have h12 := nw g2
  have eD1 := h12.at eD1
  have al1 := al1.imp fun _ _ h => h.ext h12.t
  have al3 := all2_map (F := PairAt G2) (f := fun x => (x, (lk s.W x).getD "")) al2
  rw [List.filter_eq_self.mpr (fun _ _ => rfl)] at al3
  have al3 : All2 (PairAt G2) zs (pairsOf s.W (moreL s)) := al3
  have al4 : All2 (PairAt G2) (ys ++ zs) ((s.S.filter fun q => !decide (q.1 ∈ goneK s)) ++ pairsOf s.W (moreL s)) := by
    refine ⟨by rw [List.length_append, List.length_append, al1.1, al3.1], fun i y x h1 h2 => ?_⟩
    rcases Nat.lt_or_ge i ys.length with hi | hi
    · rw [List.getElem?_append_left hi] at h1
      rw [List.getElem?_append_left (by rw [← al1.1]; exact hi)] at h2
      exact al1.2 i y x h1 h2
    · rw [List.getElem?_append_right hi] at h1
      rw [List.getElem?_append_right (by rw [← al1.1]; exact hi), ← al1.1] at h2
      exact al3.2 _ y x h1 h2
  have ll1 : ys.length ≤ 10 := by rw [al1.1]; exact Nat.le_trans (List.length_filter_le _ _) sl
  have ll2 : zs.length ≤ 10 := by rw [al3.1]; unfold pairsOf; rw [List.length_map]; exact ml10
  refine ⟨D1, D2, _, _, rfl, rfl, eD1, eD2, by rw [sizeLine_eq]; omega, fun r hr => ?_⟩
  have g12 := g1.trans h12
  have w3 : Go T G2 (upd G2 r (.lst (ys ++ zs))) := go_upd g12.2 hr
  have er : upd G2 r (.lst (ys ++ zs)) r = some (.lst (ys ++ zs)) := upd_same
  have al4 := al4.imp fun _ _ h => PairAt.ext h w3.t
  generalize upd G2 r (.lst (ys ++ zs)) = G3 at w3 er al4 ⊢
  obtain ⟨ps, ep, pr⟩ := pairs_refs (K := K) al4
  rw [ep] at er
  refine ⟨r, ps, _, rfl, SqL.of er, pr, fun t2 ht2 => ?_⟩
  rw [show fk ((s.S.filter fun q => !decide (q.1 ∈ goneK s)) ++ pairsOf s.W (moreL s)) = fk (s.S.filter fun q => !decide (q.1 ∈ goneK s)) ++ fk (pairsOf s.W (moreL s)) by unfold fk; rw [List.map_append], allS_eq a.iv.ts.nd]
  have g3 := g12.trans w3
  have w4 : Go T G3 (upd G3 t2 (.dK (fk (allS s)))) := go_upd g3.2 ht2
  have e2 : upd G3 t2 (.dK (fk (allS s))) t2 = some (.dK (fk (allS s))) := upd_same
  have f2 : Fresh H t2 := fresh_of g3 ht2
  generalize upd G3 t2 (.dK (fk (allS s))) = G4 at w4 e2 ⊢
  exact kq G4 t2 (g3.trans w4) f2 e2
end
theorem blk14 (m : Ms P w K mg base T C CP CG CS M) (l : La P w K mg base T CS N) (bm : LamX.TabB base mg cm T.m) (hr : Room 26 (A.deeper (envOfC "_law_deed" (defScope sDeed) s0.heap.objs.size f (.ref cm)))) :
    ∃ t, PSs (deedCx P w K mg base f cm A outer s0 H0 E) (deedB.drop 13) t ∧ ∀ (D : Ends) (d ow pa la st wk gl ml : Addr) (so : Int) (p q z : Str) (H : Hp) (s : Sta), D8 C T H s ow la st wk → Dr p q z →
      H gl = some (.lst ((goneK s).map V.str)) → gl ∉ s.ad → ow ≠ gl → H ml = some (.lst ((moreL s).map V.str)) → ml ∉ s.ad → ow ≠ ml → Out8 C T H s ow (D.rt (.bl true)) → t D (σG d s.r ow pa so p q z wk st la (some (.ref gl)) (some (.ref ml))) H := by
  have hu := hu_of hr
  obtain ⟨t13, h13, k13⟩ := ex13 (f := f) (cm := cm) (A := A) (outer := outer) (s0 := s0) (H0 := H0) (E := E) m l bm hr
  refine ⟨_, pss_cons (ps_dput hu (pv 2) pe_str h13 rfl)
      (pss_one (ps_ret (pe_cmpR op_eq (pe_meth0 (pv 1) m.L.cl m.mZ m.GZ (hr.mono (by decide)) m.bZ .nil pass0) (pe_op op_add (pe_callB (call_len_seqK K rfl) (by rfl) m.Y.len PySem.boot_len (pa_cons (pv 16) pa_nil)) (pe_callB (call_len_seqK K rfl) (by rfl) m.Y.len PySem.boot_len (pa_cons (pv 17) pa_nil))) (nomark _)))), fun D d ow pa la st wk gl ml so p q z H s a dr eg ng og em nm om kr => ?_⟩
  obtain ⟨n1, n2, n3⟩ := a.m.l3
  refine k13 _ d ow pa la st wk gl ml so p q z H s a eg ng og em nm om fun G4 t2 gg f2 e2 => ?_
  refine ⟨_, rfl, ow, _, rfl, DPut.k (k := Sum.inr "staged") (gg.at a.od.e) (by show 3 < sizeLine; decide), ?_⟩
  rw [od_s]
  obtain ⟨a1, st1⟩ := (a.m.go gg).set (gg.at a.od.el) e2 (gg.at a.od.ek) n1 (a.m.fresh f2) n3
  have eg1 : upd G4 ow (.dK (odK la t2 wk)) gl = some (.lst ((goneK s).map V.str)) := by rw [upd_ne (Ne.symm og)]; exact gg.at eg
  have em1 : upd G4 ow (.dK (odK la t2 wk)) ml = some (.lst ((moreL s).map V.str)) := by rw [upd_ne (Ne.symm om)]; exact gg.at em
  obtain ⟨⟨dx, tp, er1, ep1⟩, _⟩ := id a1.sa
  refine ⟨_, rfl, s.r, dx, _, rfl, er1, look_no (by decide +kernel), s, rfl, a1.sa, a.iv.sok, a.iv.fw, a1.tk, fun H' st2 sa2 => ?_⟩
  have eg2 := (st2.1 gl _ eg1 (by intro _ z; cases z) ng).1
  have em2 := (st2.1 ml _ em1 (by intro _ z; cases z) nm).1
  refine ⟨_, rfl, gl, _, rfl, .inl (SqL.of eg2), _, rfl, ml, _, rfl, .inl (SqL.of em2), _, _, rfl, rfl, rfl, ?_⟩
  rw [List.length_map, List.length_map, gone_len]
  rw [decide_eq_true (show V.int (((goneL s).length + (moreL s).length : Nat) : Int) = V.int (((goneL s).length : Int) + ((moreL s).length : Int)) by rw [Int.natCast_add])]
  exact kr H' { s with S := allS s } la t2 wk (((DStp.go gg).trans st1).trans (DStp.stp st2)) (M8.d (a1.stp st2 sa2) (all_inv a.iv))
theorem blk12 (m : Ms P w K mg base T C CP CG CS M) (l : La P w K mg base T CS N) (bm : LamX.TabB base mg cm T.m) (hr : Room 26 (A.deeper (envOfC "_law_deed" (defScope sDeed) s0.heap.objs.size f (.ref cm)))) :
    ∃ t, PSs (deedCx P w K mg base f cm A outer s0 H0 E) (deedB.drop 12) t ∧ ∀ (D : Ends) (d ow pa la st wk gl : Addr) (so : Int) (p q z : Str) (H : Hp) (s : Sta), D8 C T H s ow la st wk → Dr p q z →
      H gl = some (.lst ((goneK s).map V.str)) → gl ∉ s.ad → ow ≠ gl → Out8 C T H s ow (D.rt (.bl true)) → t D (σG d s.r ow pa so p q z wk st la (some (.ref gl)) none) H := by
  have hu := hu_of hr
  obtain ⟨t2, h2, k2⟩ := blk14 (f := f) (cm := cm) (A := A) (outer := outer) (s0 := s0) (H0 := H0) (E := E) m l bm hr
  refine ⟨_, pss_cons (ps_setLc (i := 17) (own := [("one", 14)]) (g := gName 14) rfl scD.nd rfl rfl (sw_true rfl rfl rfl (by decide +kernel)) (pi_listK K rfl (pe_callB (call_sortedD rfl) (by rfl) m.Y.sorted (by decide +kernel) (pa_cons (pv 8) pa_nil))) (blkOk_by (N := ND) (sc := defScope sDeed) (by decide +kernel)) (fun _ _ _ _ _ => pg_name (i := 14) scD.nd rfl (Or.inl rfl)) (fun _ _ _ _ _ => pts_one (PW.pt (pw_and (pt_cmpR op_ne (pe_dget1 hu (pv 9) (pv 14) ⟨rfl, rfl, rfl, rfl⟩) (pe_dget hu (pv 8) (pv 14) (fun _ _ => rfl)) (nomark _)) (pw_and1 (PW.pt (pw_or (pt_cmp (pc_din hu (pv 14) (pv 9))) (pw_or1 (pt_not (pt_val (pe_call l.GO (hr.mono (by decide)) rfl l.mO l.kO l.bO .nil pass0 (pa_cons (pv 14) pa_nil))))))))))) (fun _ _ _ _ _ => pv 14)) h2, fun D d ow pa la st wk gl so p q z H s a dr eg ng og kr => ?_⟩
  have wl := a.iv.tw.fok.n
  refine ⟨_, rfl, wk, _, keysF s.W, rfl, Rd.of a.od.ek, keys_inr _, by rw [keysF_len]; omega, fun ys S pm sr hS => ?_⟩
  have ey : ys = srt (keysF s.W) := srt_eq pm sr
  subst ey
  have w1 : Go T H (upd H S (.lst ((srt (keysF s.W)).map V.str))) := go_upd a.tk hS
  have eS : upd H S (.lst ((srt (keysF s.W)).map V.str)) S = some (.lst ((srt (keysF s.W)).map V.str)) := upd_same
  generalize upd H S (.lst ((srt (keysF s.W)).map V.str)) = G1 at w1 eS ⊢
  refine ⟨S, rfl, ⟨_, SqL.of eS⟩, fun D2 hD2 => ?_⟩
  have w2 : Go T G1 (upd G1 D2 (.lst [])) := go_upd w1.2 hD2
  have nw : ∀ {G : Hp}, GoE T [D2] (upd G1 D2 (.lst [])) G → Go T G1 G := fun g => GoE.news w2 g fun b hb => by rw [List.mem_singleton.mp hb]; exact fresh_none hD2
  refine lc_ov (T := T) (moreB s) (fun _ y x => y = V.str x) (fun _ _ _ _ _ e => e) (ov_l (K := K) (a := S) (xs := (srt (keysF s.W)).map V.str)) w1.2 hD2 (fun G g => SqL.of ((nw g).at eS)) (by rw [(srt_perm _).length_eq, keysF_len]; omega) (fun x hx G kk g q => ?_) (fun x hx hb G Q' g q => ⟨_, rfl, q _ G (GoE.refl g.2) rfl⟩) fun G2 zs g2 eD2 al2 => ?_
  · have hx := (mem_srt _ _).mp hx
    have aG := (a.go w1).go (nw g)
    have gW := DAt.get (.inl aG.od.ek) x
    have gS := DAt.get (.inl aG.od.et) x
    have sI : IsD G st := DAt.isD (.inl aG.od.et)
    obtain ⟨y, eW⟩ := keys_lk hx
    have qq := q
    unfold moreB at qq
    rw [eW] at gW qq
    rw [a.iv.pp] at qq
    cases eS2 : lk s.S x with
    | none =>
      rw [eS2] at gS qq
      obtain ⟨n, r, es, eo, l1, l2, l3⟩ := out_ok x (a.iv.tw.key hx)
      rw [← eo] at qq
      refine ⟨_, rfl, st, rfl, sI, _, rfl, _, gS, _, rfl, _, rfl, wk, _, rfl, gW, rfl, _, rfl, iteT ⟨_, rfl, _, rfl, st, _, rfl, gS, _, rfl, iteF ⟨_, rfl, x, n, r, rfl, es, l1, l2, l3, aG.tk, fun G' g' => ⟨_, rfl, ?_⟩⟩⟩⟩
      exact qq G' g'
    | some v =>
      rw [eS2] at gS qq
      refine ⟨_, rfl, st, rfl, sI, _, rfl, _, gS, _, rfl, _, rfl, wk, _, rfl, gW, rfl, _, rfl, ?_⟩
      by_cases ev : v = y
      · subst ev
        have := qq G (GoE.refl aG.tk)
        simp at this
        refine (if_neg (by show ¬ (!decide (V.str v = V.str v)) = true; simp)).mpr this
      · have := qq G (GoE.refl aG.tk)
        simp [ev] at this
        exact (if_pos (by show (!decide (V.str v = V.str y)) = true; rw [decide_eq_false fun e => ev (V.str.inj e)]; rfl)).mpr ⟨_, rfl, _, rfl, st, _, rfl, gS, _, rfl, iteT this⟩
  · have e := strs_at al2
    subst e
    have gg := w1.trans (nw g2)
    exact k2 D d ow pa la st wk gl D2 so p q z G2 s (a.go gg) dr (gg.at eg) ng og eD2 (a.sa.off (fresh_of w1 hD2)) (a.m.fresh (fresh_of w1 hD2)).2 (kr.go gg)
theorem blk11 (m : Ms P w K mg base T C CP CG CS M) (l : La P w K mg base T CS N) (bm : LamX.TabB base mg cm T.m) (hr : Room 26 (A.deeper (envOfC "_law_deed" (defScope sDeed) s0.heap.objs.size f (.ref cm)))) :
    ∃ t, PSs (deedCx P w K mg base f cm A outer s0 H0 E) (deedB.drop 11) t ∧ ∀ (D : Ends) (d ow pa la st wk : Addr) (so : Int) (p q z : Str) (H : Hp) (s : Sta), D8 C T H s ow la st wk → Dr p q z →
      Out8 C T H s ow (D.rt (.bl true)) → t D (σG d s.r ow pa so p q z wk st la none none) H := by
  have hu := hu_of hr
  obtain ⟨t2, h2, k2⟩ := blk12 (f := f) (cm := cm) (A := A) (outer := outer) (s0 := s0) (H0 := H0) (E := E) m l bm hr
  refine ⟨_, pss_cons (ps_set (i := 16) scD.nd rfl (Or.inr rfl) (pe_lock (pe_lc (own := [("one", 14)]) (g := gName 14) rfl scD.nd (pi_keys (pv 9)) (blkOk_by (N := ND) (sc := defScope sDeed) (by decide +kernel)) (fun _ _ _ _ _ => pg_name (i := 14) scD.nd rfl (Or.inl rfl)) (fun _ _ _ _ _ => pts_one (pt_cmp (pc_dnotin hu (pv 14) (pv 8)))) (fun _ _ _ _ _ => pv 14)))) h2, fun D d ow pa la st wk so p q z H s a dr kr => ?_⟩
  show tLockE (tLc (iKeys (tVar 9)) (gName 14) (tTest (tDNotIn (tVar 14) (tVar 8))) (tVar 14) [14]) (σG d s.r ow pa so p q z wk st la none none) H (fun x H1 => gName 16 x (σG d s.r ow pa so p q z wk st la none none) H1 (t2 D))
  refine lcK (i := 14) (A := s.S) (T := T) (fun x => (lk s.W x).isNone) (fun _ y x => y = V.str x) (fun _ _ _ _ _ e => e) a.tk a.od.et (by have := a.iv.ts.fok.n; omega) (fun G kk h g q => ⟨_, rfl, q⟩) (fun x hx G kk od g e q => ?_) (fun x hx hb G Q' od g e q => ⟨_, rfl, q _ G (GoE.refl g.2) rfl⟩) fun G gl ys g hD eD al => ?_
  · have dW : DAt G wk s.W := dat_lock a.od.ek a.od.et g e
    have qq := q G (GoE.refl g.2)
    refine ⟨_, rfl, _, rfl, wk, _, rfl, dW.get x, _, rfl, ?_⟩
    rw [Option.isSome_map, show (!(lk s.W x).isSome) = (lk s.W x).isNone by cases lk s.W x <;> rfl]
    exact qq
  · have e := strs_at al
    subst e
    exact k2 D d ow pa la st wk gl so p q z G s (a.go g) dr eD (a.sa.off (fresh_none hD)) (a.m.fresh (fresh_none hD)).2 (kr.go g)
end
end Sg
end Text_S41
section Text_S42
set_option Elab.async false
set_option linter.all false
set_option maxRecDepth 100000
set_option maxHeartbeats 2000000
namespace Sg
open PySem PySem.Spec PyProof.Rows L2 Gx GxR LamY LamZ
theorem ix_listK {X : Cx} (K : PySem.W.Frag) (hK : X.K = K) : IxR X (rIxL K) := by
  rw [← hK]
  exact ix_list
theorem roll_go {T : Tb} {S : List Addr} {d : Addr} {H G : Hp} {xs : List V} (g : GoE T S H G) (hd : d ∈ S) (dk : DiceAt G d) (dv : DiceV xs) : GoE T S H (upd G d (.lst xs)) ∧ DiceAt (upd G d (.lst xs)) d := by
  obtain ⟨ys, e, _⟩ := dk
  exact ⟨g.trans (go_set g.2 e mu_lst hd), _, upd_same, dv⟩
theorem DiceAt.go {T : Tb} {d : Addr} {H G : Hp} (dk : DiceAt H d) (g : Go T H G) : DiceAt G d := by
  obtain ⟨ys, e, k⟩ := dk
  exact ⟨ys, g.at e, k⟩
theorem DiceAt.nd {H : Hp} {d b : Addr} {o : HO} (h : DiceAt H d) (e : H b = some o) (n : ∀ xs, o ≠ .lst xs := by intro _ z; cases z) : b ≠ d := fun z => by
  obtain ⟨ys, ed, _⟩ := h
  rw [z, ed] at e
  exact n ys (Option.some.inj e).symm
/-- what is read of a list of texts -/
theorem at_strs {L : List Str} {i : Int} (h0 : 0 ≤ i) (h1 : i < L.length) : ∃ p ∈ L, atI (L.map V.str) i = some (.str p) := by
  obtain ⟨n, rfl⟩ : ∃ n : Nat, i = (n : Int) := ⟨i.toNat, by omega⟩
  have hn : n < L.length := by omega
  exact ⟨L[n], List.getElem_mem hn, atI_nat (by rw [List.getElem?_map, List.getElem?_eq_getElem hn]; rfl)⟩
def TX3 : List Str := ["", "x", ("y" : Str) ++ "\n" ++ "z"]
theorem tx3 : ∀ z ∈ TX3, z ∈ TXT := by decide +kernel
theorem D8.goe {C : Addr} {T : Tb} {H H' : Hp} {s : Sta} {ow l t k d : Addr} (a : D8 C T H s ow l t k) (dk : DiceAt H d) (nd : d ∉ s.ad) (g : GoE T [d] H H') : D8 C T H' s ow l t k := by
  have n : ∀ b u, H b = some (.dK u) → b ∉ [d] := fun b u e z => absurd (List.mem_singleton.mp z) (dk.nd e (by intro _ q; cases q))
  exact ⟨a.sa.ext g fun b hb z => nd (by rw [← List.mem_singleton.mp z]; exact hb), a.iv, ⟨g.at a.od.e (n _ _ a.od.e), g.at a.od.el (n _ _ a.od.el), g.at a.od.et (n _ _ a.od.et), g.at a.od.ek (n _ _ a.od.ek), a.od.nl, a.od.nt, a.od.nk⟩, a.off, g.2⟩
theorem DStp.goe {T : Tb} {X : List Addr} {H H' : Hp} {s : Sta} {d : Addr} (g : GoE T [d] H H') (hX : d ∈ X) (dk : DiceAt H' d) : DStp T X H s H' s := by
  refine ⟨fun b o e n m => ⟨?_, m⟩, g.t, g.2, rfl⟩
  by_cases z : b = d
  · obtain ⟨xs, e2, _⟩ := dk
    exact ⟨_, by rw [z]; exact e2, (by intro _ q; cases q), fun hx => absurd (by rw [z]; exact hX) hx⟩
  · exact ⟨o, g.at e (by simpa using z) n, n, fun _ => rfl⟩
theorem DStp.mono {T : Tb} {X Y : List Addr} {H H' : Hp} {s s' : Sta} (a : DStp T X H s H' s') (h : ∀ b ∈ X, b ∈ Y) : DStp T Y H s H' s' := ⟨fun b o e n m => by
  obtain ⟨⟨o', e', n', k⟩, m'⟩ := a.1 b o e n m
  exact ⟨⟨o', e', n', fun hx => k fun z => hx (h b z)⟩, m'⟩, a.2⟩
def spDeed (C : Addr) (T : Tb) : Sp := fun vs H Q _ => ∃ (s : Sta) (d ow la st wk : Addr), vs = [.ref d, .ref s.r, .ref ow] ∧ D8 C T H s ow la st wk ∧ DiceAt H d ∧ d ∉ s.ad ∧
  ∀ H' s' l' t' k', DStp T [ow, d] H s H' s' → D8 C T H' s' ow l' t' k' → DiceAt H' d → d ∉ s'.ad → Q (.bl true) H'
section
variable {P : Program} {w : World} {K : PySem.W.Frag} {mg : Str → Option Value} {base : Heap} {T : Tb} {C CP CG CS : Addr} {M : MD} {N : LD}
theorem ok_deed {f cm : Addr} {fd : FuncData} (F : FunC K "_law_deed" "_law_deed" sDeed f cm fd) (m : Ms P w K mg base T C CP CG CS M) (l : La P w K mg base T CS N) (bm : LamX.TabB base mg cm T.m) : FnOk P w K mg base CX0 27 f fd ["dice", "stage", "own"] (spDeed C T) := by
  refine F.ok scD (fun vs H Q E h => ?_) (fun A outer s0 H vs Q E hr h => ?_)
  · obtain ⟨s, d, ow, la, st, wk, rfl, _⟩ := h
    rfl
  · obtain ⟨s, d, ow, la, st, wk, rfl, a, dk, ndd, k1⟩ := h
    have hu := hu_of hr
    obtain ⟨tE, eE⟩ := m.Y.end_
    obtain ⟨t3, h3, k3⟩ := blk3 (f := f) (cm := cm) (A := A) (outer := outer) (s0 := s0) (H0 := H) (E := E) m l bm hr
    obtain ⟨t4, h4, k4⟩ := blk4 (f := f) (cm := cm) (A := A) (outer := outer) (s0 := s0) (H0 := H) (E := E) m l bm hr
    obtain ⟨t5, h5, k5⟩ := blk5 (f := f) (cm := cm) (A := A) (outer := outer) (s0 := s0) (H0 := H) (E := E) m l bm hr
    obtain ⟨t6, h6, k6⟩ := blk6 (f := f) (cm := cm) (A := A) (outer := outer) (s0 := s0) (H0 := H) (E := E) m l bm hr
    obtain ⟨t7, h7, k7⟩ := blk7 (f := f) (cm := cm) (A := A) (outer := outer) (s0 := s0) (H0 := H) (E := E) m l bm hr
    obtain ⟨t8, h8, k8⟩ := blk8 (f := f) (cm := cm) (A := A) (outer := outer) (s0 := s0) (H0 := H) (E := E) m l bm hr
    obtain ⟨t9, h9, k9⟩ := blk9 (f := f) (cm := cm) (A := A) (outer := outer) (s0 := s0) (H0 := H) (E := E) m l bm hr
    obtain ⟨t10, h10, k10⟩ := blk10 (f := f) (cm := cm) (A := A) (outer := outer) (s0 := s0) (H0 := H) (E := E) m l bm hr
    obtain ⟨t11, h11, k11⟩ := blk11 (f := f) (cm := cm) (A := A) (outer := outer) (s0 := s0) (H0 := H) (E := E) m l bm hr
    refine ⟨_, pss_cons (ps_set (i := 3) scD.nd rfl (Or.inl rfl) (pe_lst (pa_cons pe_str (pa_cons pe_str (pa_cons pe_str (pa_cons pe_str (pa_cons pe_str (pa_cons pe_str (pa_cons pe_str (pa_cons pe_str (pa_cons pe_str pa_nil)))))))))))
      (pss_cons (ps_asg (pe_tup (pa_cons (pe_call l.GR (hr.mono (by decide)) rfl l.mR l.kR l.bR .nil pass0 (pa_cons (pv 0) (pa_cons pe_int pa_nil)))
            (pa_cons (pe_ix (ix_listK K rfl) (pv 3) (pe_call l.GR (hr.mono (by decide)) rfl l.mR l.kR l.bR .nil pass0 (pa_cons (pv 0) (pa_cons pe_int pa_nil))) (fun _ _ => rfl))
            (pa_cons (pe_ix (ix_listK K rfl) (pv 3) (pe_call l.GR (hr.mono (by decide)) rfl l.mR l.kR l.bR .nil pass0 (pa_cons (pv 0) (pa_cons pe_int pa_nil))) (fun _ _ => rfl))
            (pa_cons (pe_ix (ix_listK K rfl) (pe_lst (pa_cons pe_str (pa_cons pe_str (pa_cons (pe_op op_add_str (pe_op op_add_str pe_str (pe_glob (v := .str "\n") rfl eE ⟨tE, rfl⟩)) pe_str) pa_nil)))) (pe_call l.GR (hr.mono (by decide)) rfl l.mR l.kR l.bR .nil pass0 (pa_cons (pv 0) (pa_cons pe_int pa_nil))) (fun _ _ => rfl)) pa_nil)))))
          (pg_tup rfl (pgs_cons (pg_name (i := 4) scD.nd rfl (Or.inl rfl)) (pgs_cons (pg_name (i := 5) scD.nd rfl (Or.inr rfl)) (pgs_cons (pg_name (i := 6) scD.nd rfl (Or.inr rfl)) (pgs_cons (pg_name (i := 7) scD.nd rfl (Or.inr rfl)) pgs_nil))))))
      (pss_cons (ps_asg (pe_tup (pa_cons (pe_dget hu (pv 2) pe_str (fun _ _ => rfl)) (pa_cons (pe_dget hu (pv 2) pe_str (fun _ _ => rfl)) (pa_cons (pe_dget hu (pv 2) pe_str (fun _ _ => rfl)) pa_nil))))
          (pg_tup rfl (pgs_cons (pg_name (i := 8) scD.nd rfl (Or.inr rfl)) (pgs_cons (pg_name (i := 9) scD.nd rfl (Or.inr rfl)) (pgs_cons (pg_name (i := 10) scD.nd rfl (Or.inl rfl)) pgs_nil)))))
      (pss_cons h3 (pss_cons h4 (pss_cons h5 (pss_cons h6 (pss_cons h7 (pss_cons h8 (pss_cons h9 (pss_cons h10 h11)))))))))), ?_⟩
    refine ⟨by show 9 ≤ sizeLine; decide, fun pa hpa => ?_⟩
    have w0 : Go T H (upd H pa (.lst (PD.map V.str))) := go_upd a.tk hpa
    have ep : upd H pa (.lst (PD.map V.str)) pa = some (.lst (PD.map V.str)) := upd_same
    have npd : pa ≠ d := fun z => by
      obtain ⟨xs, e, _⟩ := dk
      rw [← z, hpa] at e
      cases e
    change tSeq _ _ _ _ (upd H pa (.lst (PD.map V.str)))
    generalize upd H pa (.lst (PD.map V.str)) = G0 at w0 ep ⊢
    have dk0 := dk.go w0
    have g0 : GoE T [d] H G0 := Go.any w0
    refine ⟨_, rfl, d, 20, rfl, by decide, by decide, dk0, fun r1 x1 lo1 hi1 dv1 => ?_⟩
    obtain ⟨g1, dk1⟩ := roll_go g0 (by simp) dk0 dv1
    have ep1 : upd G0 d (.lst x1) pa = some (.lst (PD.map V.str)) := by rw [upd_ne npd]; exact ep
    generalize upd G0 d (.lst x1) = G1 at g1 dk1 ep1 ⊢
    refine ⟨_, rfl, _, rfl, d, 9, rfl, by decide, by decide, dk1, fun r2 x2 lo2 hi2 dv2 => ?_⟩
    obtain ⟨g2, dk2⟩ := roll_go g1 (by simp) dk1 dv2
    have ep2 : upd G1 d (.lst x2) pa = some (.lst (PD.map V.str)) := by rw [upd_ne npd]; exact ep1
    generalize upd G1 d (.lst x2) = G2 at g2 dk2 ep2 ⊢
    obtain ⟨p, hp, ap⟩ := at_strs (L := PD) lo2 hi2
    refine ⟨pa, _, r2, .str p, rfl, rfl, SqL.of ep2, ap, ?_⟩
    refine ⟨_, rfl, _, rfl, d, 9, rfl, by decide, by decide, dk2, fun r3 x3 lo3 hi3 dv3 => ?_⟩
    obtain ⟨g3, dk3⟩ := roll_go g2 (by simp) dk2 dv3
    have ep3 : upd G2 d (.lst x3) pa = some (.lst (PD.map V.str)) := by rw [upd_ne npd]; exact ep2
    generalize upd G2 d (.lst x3) = G3 at g3 dk3 ep3 ⊢
    obtain ⟨q, hq, aq⟩ := at_strs (L := PD) lo3 hi3
    refine ⟨pa, _, r3, .str q, rfl, rfl, SqL.of ep3, aq, ?_⟩
    refine ⟨_, _, rfl, rfl, by decide, _, _, rfl, rfl, by decide, by show 3 ≤ sizeLine; decide, fun l3 hl3 => ?_⟩
    have w4 : GoE T [d] G3 (upd G3 l3 (.lst (TX3.map V.str))) := go_upd g3.2 hl3
    have e4 : upd G3 l3 (.lst (TX3.map V.str)) l3 = some (.lst (TX3.map V.str)) := upd_same
    have nld : l3 ≠ d := fun z => by
      obtain ⟨xs, e, _⟩ := dk3
      rw [← z, hl3] at e
      cases e
    have dk4 : DiceAt (upd G3 l3 (.lst (TX3.map V.str))) d := by
      obtain ⟨xs, e, k⟩ := dk3
      exact ⟨xs, by rw [upd_ne (Ne.symm nld)]; exact e, k⟩
    have g4 := g3.trans w4
    change tCall _ _ _ _ _ (upd G3 l3 (.lst (TX3.map V.str))) _
    generalize upd G3 l3 (.lst (TX3.map V.str)) = G4 at g4 e4 dk4 ⊢
    refine ⟨_, rfl, d, 3, rfl, by decide, by decide, dk4, fun r4 x4 lo4 hi4 dv4 => ?_⟩
    obtain ⟨g5, dk5⟩ := roll_go g4 (by simp) dk4 dv4
    have e5 : upd G4 d (.lst x4) l3 = some (.lst (TX3.map V.str)) := by rw [upd_ne nld]; exact e4
    generalize upd G4 d (.lst x4) = G5 at g5 dk5 e5 ⊢
    obtain ⟨z, hz, az⟩ := at_strs (L := TX3) lo4 hi4
    refine ⟨l3, _, r4, .str z, rfl, rfl, SqL.of e5, az, by show 4 ≤ sizeLine; decide, fun t1 ht1 => ?_⟩
    have w6 : Go T G5 (upd G5 t1 (.tup [.int r1, .str p, .str q, .str z])) := go_upd g5.2 ht1
    have et1 : upd G5 t1 (.tup [.int r1, .str p, .str q, .str z]) t1 = some (.tup [.int r1, .str p, .str q, .str z]) := upd_same
    generalize upd G5 t1 (.tup [.int r1, .str p, .str q, .str z]) = G6 at w6 et1 ⊢
    refine ⟨t1, _, rfl, SqT.of et1, rfl, _, _, rfl, _, _, rfl, _, _, rfl, _, _, rfl, rfl, ?_⟩
    have g6 := g5.trans (Go.any w6)
    have dk6 := dk5.go w6
    have a6 := a.goe dk ndd g6
    have gw : DGet G6 ow (.str "work") (some (.ref wk)) := DGet.k (k := Sum.inr "work") a6.od.e
    have gs : DGet G6 ow (.str "staged") (some (.ref st)) := DGet.k (k := Sum.inr "staged") a6.od.e
    have gl : DGet G6 ow (.str "last") (some (.ref la)) := DGet.k (k := Sum.inr "last") a6.od.e
    refine ⟨_, rfl, ow, _, rfl, gw, _, rfl, ow, _, rfl, gs, _, rfl, ow, _, rfl, gl, by show 3 ≤ sizeLine; decide, fun t2 ht2 => ?_⟩
    have w7 : Go T G6 (upd G6 t2 (.tup [.ref wk, .ref st, .ref la])) := go_upd g6.2 ht2
    have et2 : upd G6 t2 (.tup [.ref wk, .ref st, .ref la]) t2 = some (.tup [.ref wk, .ref st, .ref la]) := upd_same
    generalize upd G6 t2 (.tup [.ref wk, .ref st, .ref la]) = G7 at w7 et2 ⊢
    refine ⟨t2, _, rfl, SqT.of et2, rfl, _, _, rfl, _, _, rfl, _, _, rfl, rfl, ?_⟩
    have a7 := a6.go w7
    have dk7 := dk6.go w7
    have g7 := g6.trans (Go.any w7)
    have dr : Dr p q z := ⟨hp, hq, tx3 z hz⟩
    have ndo : d ≠ ow := Ne.symm (dk7.nd a7.od.e)
    have kr : Out8 C T G7 s ow (fun H' => Q (.bl true) H') := fun H' s' l' t' k' st2 a2 => by
      obtain ⟨xs, ed, dv⟩ := id dk7
      obtain ⟨⟨o', e', _, k'⟩, nd'⟩ := st2.1 d _ ed (by intro _ q; cases q) ndd
      have e'' := k' (by simpa using ndo)
      rw [e''] at e'
      exact k1 H' s' _ _ _ ((DStp.goe g7 (by simp) dk7).trans (st2.mono (by simp))) a2 ⟨xs, e', dv⟩ nd'
    exact k3 _ d ow pa la st wk r1 p q z G7 s a7 dr (k4 _ d ow pa la st wk r1 p q z G7 s a7 dr (k5 _ d ow pa la st wk r1 p q z G7 s a7 dr (k6 _ d ow pa la st wk r1 p q z G7 s a7 dr (k7 _ d ow pa la st wk r1 p q z G7 s a7 dr (k8 _ d ow pa la st wk r1 p q z G7 s a7 dr (k9 _ d ow pa la st wk r1 p q z G7 s a7 dr (k10 _ d ow pa la st wk r1 p q z G7 s a7 dr (k11 _ d ow pa la st wk r1 p q z G7 s a7 dr kr) kr) kr) kr) kr) kr) kr) kr) kr
end
end Sg
end Text_S42
section Text_S43
set_option Elab.async false
set_option linter.all false
set_option maxRecDepth 100000
set_option maxHeartbeats 2000000
namespace Sg
open PySem PySem.Spec PyProof.Rows L2 Gx GxR LamY LamZ
/-! law: the start of a round -/
def forB : Stmt → List Stmt
  | .For _ _ b _ _ => b
  | _ => []
def lawB : List Stmt := forB ((defBody sLaw).getD 0 noS)
abbrev NLw : List Str := ["script", "dice", "files", "path", "stage", "own", "step", "lying", "due", "row", "what", "told"]
theorem scLaw : FnScope NLw ["script"] (defScope sLaw) := ⟨rfl, rfl, rfl, by decide +kernel, rfl, by decide +kernel, by decide +kernel⟩
abbrev lawCx (P : Program) (w : World) (K : PySem.W.Frag) (mg : Str → Option Value) (base : Heap) (f : Addr) (cdv : Value) (A : Around) (outer : List Env) (s : Shared) (H : Hp) (E : XK) : Cx := (cxOf CX0 P w K mg base NLw "law" (defScope sLaw) f cdv A outer s H E).nox
def L3 : List Str := ["a", "d/e", "k.o"]
def F3 (l : List Str) : Files := l.map fun x => (x, "x")
theorem f3_tok {A : Files} (h : A.Sublist (F3 L3)) : Tok A ∧ wayFree A := by
  have t : Tok (F3 L3) := ⟨by decide +kernel, by decide⟩
  have w : wayFree (F3 L3) := by unfold wayFree; decide +kernel
  exact ⟨t.sub h, w.sub fun x hx => (h.map _).subset hx⟩
section
variable {P : Program} {w : World} {K : PySem.W.Frag} {mg : Str → Option Value} {base : Heap} {T : Tb} {C CP CG CS : Addr} {M : MD} {N : LD}
variable {f : Addr} {cdv : Value} {A0 : Around} {outer : List Env} {s0 : Shared} {H0 : Hp} {E : XK}
/-- files = .. -/
theorem st0 (m : Ms P w K mg base T C CP CG CS M) (l : La P w K mg base T CS N) (hr : Room 27 (A0.deeper (envOfC "law" (defScope sLaw) s0.heap.objs.size f cdv))) :
    ∃ t, PS (lawCx P w K mg base f cdv A0 outer s0 H0 E) (lawB.getD 0 noS) t ∧ ∀ (D : Ends) (a d : Addr) (H : Hp), TOk T H → DiceAt H d →
      (∀ G fi A, GoE T [d] H G → DiceAt G d → G fi = some (.dK (fk A)) → Fresh H fi → A.Sublist (F3 L3) → D.nx [some (.ref a), some (.ref d), some (.ref fi), none, none, none, none, none, none, none, none, none] G) →
      t D [some (.ref a), some (.ref d), none, none, none, none, none, none, none, none, none, none] H := by
  have hu := hu_of hr
  refine ⟨_, ps_set (i := 2) scLaw.nd rfl (Or.inr rfl) (pe_callTy (call_dictP rfl) (by rfl) m.Y.dict (by decide +kernel) (pa_cons (pe_lc (own := [("path", 3)]) (g := gName 3) rfl scLaw.nd (pi_listK K rfl (pe_lst (pa_cons pe_str (pa_cons pe_str (pa_cons pe_str pa_nil)))))
      (blkOk_by (N := NLw) (sc := defScope sLaw) (by decide +kernel)) (fun _ _ _ _ _ => pg_name (i := 3) scLaw.nd rfl (Or.inl rfl))
      (fun _ _ _ _ _ => pts_one (pt_cmpR op_eq (pe_call l.GR (hr.mono (by decide)) rfl l.mR l.kR l.bR .nil pass0 (pa_cons (pv 1) (pa_cons pe_int pa_nil))) pe_int (nomark _)))
      (fun _ _ _ _ _ => pe_tup (pa_cons (pv 3) (pa_cons pe_str pa_nil)))) pa_nil)), fun D a d H tk dk k1 => ?_⟩
  refine ⟨by show 3 ≤ sizeLine; decide, fun l3 hl3 => ⟨l3, rfl, ?_⟩⟩
  rw [show upd H l3 (.lst [V.str "a", V.str "d/e", V.str "k.o"]) = upd H l3 (.lst (L3.map V.str)) from rfl]
  have w1 : Go T H (upd H l3 (.lst (L3.map V.str))) := go_upd tk hl3
  have e3 : upd H l3 (.lst (L3.map V.str)) l3 = some (.lst (L3.map V.str)) := upd_same
  have nld : l3 ≠ d := fun z => by
    obtain ⟨xs, e, _⟩ := dk
    rw [← z, hl3] at e
    cases e
  have dk1 := dk.go w1
  generalize upd H l3 (.lst (L3.map V.str)) = H1 at w1 e3 dk1 ⊢
  refine ⟨⟨_, SqL.of e3⟩, fun D2 hD2 => ?_⟩
  have w2 : Go T H1 (upd H1 D2 (.lst [])) := go_upd w1.2 hD2
  have nD : D2 ≠ d := fun z => by
    obtain ⟨xs, e, _⟩ := dk1
    rw [← z, hD2] at e
    cases e
  have nDl : D2 ≠ l3 := fun z => by rw [z, e3] at hD2; cases hD2
  refine lc_list (xs := L3.map V.str) (fun i G => GoE T [D2, d] (upd H1 D2 (.lst [])) G ∧ DiceAt G d ∧ ∃ ys A, G D2 = some (.lst ys) ∧ All2 (PairAt G) ys A ∧ A.Sublist (F3 (L3.take i))) ?_ ?_ ?_ ?_
  · exact ⟨GoE.refl w2.2, dk1.go w2, [], [], upd_same, All2.nil, List.Sublist.refl _⟩
  · intro i G _ h
    refine SqL.of (h.1.at (w2.at e3) ?_)
    simp only [List.mem_cons, List.not_mem_nil, or_false, not_or]
    exact ⟨Ne.symm nDl, nld⟩
  · intro i x G hix h
    obtain ⟨g, dk2, ys, A, eD, al, sub⟩ := h
    obtain ⟨p, hp, rfl⟩ := str_at hix
    have hi : i < 3 := by
      have := (List.getElem?_eq_some_iff.mp hp).1
      have e : L3.length = 3 := rfl
      omega
    have hl : ys.length ≤ 3 := by
      rw [al.1]
      have := sub.length_le
      unfold F3 at this
      rw [List.length_map, List.length_take] at this
      omega
    have st : F3 (L3.take (i + 1)) = F3 (L3.take i) ++ ([(p, "x")] : Files) := by
      unfold F3
      rw [take_snoc hp, List.map_append]
      rfl
    refine ⟨rfl, _, rfl, d, 2, rfl, by decide, by decide, dk2, fun r x2 lo hi2 dv => ?_⟩
    obtain ⟨g3, dk3⟩ := roll_go g (by simp) dk2 dv
    have eD3 : upd G d (.lst x2) D2 = some (.lst ys) := by rw [upd_ne nD]; exact eD
    have al3 := al.imp fun _ _ h => PairAt.ext h ((go_set (S := [d]) (o := .lst x2) g.2 dk2.choose_spec.1 mu_lst (by simp)).t)
    generalize upd G d (.lst x2) = G3 at g3 dk3 eD3 al3 ⊢
    refine ⟨rfl, _, rfl, ?_⟩
    by_cases hr0 : V.int r = V.int 0
    · refine (if_pos (decide_eq_true hr0)).mpr ⟨_, rfl, by show 2 ≤ sizeLine; decide, fun t ht => ⟨ys, ?_, by rw [sizeLine_eq]; omega, ?_⟩⟩
      · rw [upd_ne (ne_of_none eD3 ht)]
        exact eD3
      · have w4 : GoE T [D2, d] G3 (upd G3 t (.tup [.str p, .str "x"])) := go_upd g3.2 ht
        have et : upd G3 t (.tup [.str p, .str "x"]) t = some (.tup [.str p, .str "x"]) := upd_same
        have eD4 : upd G3 t (.tup [.str p, .str "x"]) D2 = some (.lst ys) := by rw [upd_ne (ne_of_none eD3 ht)]; exact eD3
        have dk4 : DiceAt (upd G3 t (.tup [.str p, .str "x"])) d := by
          obtain ⟨xs, e, k⟩ := dk3
          exact ⟨xs, by rw [upd_ne (ne_of_none e ht)]; exact e, k⟩
        have al4 := al3.imp fun _ _ h => PairAt.ext h w4.t
        generalize upd G3 t (.tup [.str p, .str "x"]) = G4 at w4 et eD4 dk4 al4 ⊢
        have w5 : GoE T [D2, d] G4 (upd G4 D2 (.lst (ys ++ [.ref t]))) := go_set w4.2 eD4 mu_lst (by simp)
        refine ⟨(g3.trans w4).trans w5, ?_, ys ++ [.ref t], A ++ ([(p, "x")] : Files), upd_same, (al4.imp fun _ _ h => PairAt.ext h w5.t).snoc ⟨t, rfl, w5.t _ _ et⟩, ?_⟩
        · obtain ⟨xs, e, k⟩ := dk4
          exact ⟨xs, by rw [upd_ne (Ne.symm nD)]; exact e, k⟩
        · rw [st]
          exact sub.append (List.Sublist.refl _)
    · refine (if_neg (by rw [decide_eq_false hr0]; decide)).mpr ⟨g3, dk3, ys, A, eD3, al3, ?_⟩
      rw [st]
      exact sub.trans (List.sublist_append_left _ _)
  · intro G h
    obtain ⟨g, dk2, ys, A, eD, al, sub⟩ := h
    have sub : A.Sublist (F3 L3) := sub
    obtain ⟨ps, rfl, pr⟩ := pairs_refs (K := K) al
    refine ⟨D2, ps, _, rfl, SqL.of eD, pr, fun fi hfi => ?_⟩
    rw [merge_fk (f3_tok sub).1.nd]
    have gH : GoE T [d] H G := by
      have g12 : Go T H (upd H1 D2 (.lst [])) := w1.trans w2
      refine ⟨fun b o e n mm => ?_, g.2⟩
      refine g.1 b o (g12.1 b o e n (.inl (by simp))) n ?_
      rcases mm with mm | mm
      · refine .inl ?_
        simp only [List.mem_cons, List.not_mem_nil, or_false, not_or]
        refine ⟨fun z => ?_, by simpa using mm⟩
        have := w1.1 b o e n (.inl (by simp))
        rw [z, hD2] at this
        cases this
      · exact .inr mm
    have w3 : GoE T [d] G (upd G fi (.dK (fk A))) := go_upd g.2 hfi
    refine k1 _ fi A (gH.trans w3) ?_ upd_same (fresh_in gH hfi fun b hb => ?_) sub
    · obtain ⟨xs, e, k⟩ := dk2
      exact ⟨xs, by rw [upd_ne (ne_of_none e hfi)]; exact e, k⟩
    · rw [List.mem_singleton.mp hb]
      obtain ⟨xs, e, k⟩ := dk2
      exact ⟨_, e⟩
end
end Sg
end Text_S43
section Text_S44
set_option Elab.async false
set_option linter.all false
set_option maxRecDepth 100000
set_option maxHeartbeats 2000000
namespace Sg
open PySem PySem.Spec PyProof.Rows L2 Gx GxR LamY LamZ
structure LW where
  fD : Addr
  fY : Addr
  fC : Addr
  fR : Addr
  fP : Addr
  dD : FuncData
  dY : FuncData
  dC : FuncData
  dR : FuncData
  dP : FuncData
/-- the rest of what law calls -/
structure Lw (P : Program) (w : World) (K : PySem.W.Frag) (mg : Str → Option Value) (base : Heap) (T : Tb) (C : Addr) (N : LW) : Prop where
  GD : FnOk P w K mg base CX0 27 N.fD N.dD ["dice", "stage", "own"] (spDeed C T)
  mD : mg "_law_deed" = some (.ref N.fD)
  kD : PySem.W.keepIn K (.ref N.fD) = true
  bD : Binds K N.dD ["dice", "stage", "own"] []
  GY : FnOk P w K mg base CX0 3 N.fY N.dY ["files", "path"] (spWay T)
  mY : mg "in_way" = some (.ref N.fY)
  kY : PySem.W.keepIn K (.ref N.fY) = true
  bY : Binds K N.dY ["files", "path"] []
  GC : FnOk P w K mg base CX0 1 N.fC N.dC ["one", "other"] (spLChg T)
  mC : mg "_law_changes" = some (.ref N.fC)
  kC : PySem.W.keepIn K (.ref N.fC) = true
  bC : Binds K N.dC ["one", "other"] []
  GR : FnOk P w K mg base CX0 2 N.fR N.dR ["script", "most"] (spRounds K T)
  mR : mg "_law_rounds" = some (.ref N.fR)
  kR : PySem.W.keepIn K (.ref N.fR) = true
  bR : Binds K N.dR ["script", "most"] []
  GP : FnOk P w K mg base CX0 27 N.fP N.dP [] (spPlain T)
  mP : mg "_law_plain" = some (.ref N.fP)
  kP : PySem.W.keepIn K (.ref N.fP) = true
  bP : Binds K N.dP [] []
abbrev σW (a d : Addr) (v2 v3 : Option V) (r ow : Addr) (v6 v7 v8 v9 v10 v11 : Option V) : L2.St := [some (.ref a), some (.ref d), v2, v3, some (.ref r), some (.ref ow), v6, v7, v8, v9, v10, v11]
section
variable {P : Program} {w : World} {K : PySem.W.Frag} {mg : Str → Option Value} {base : Heap} {T : Tb} {C CP CG CS : Addr} {M : MD} {N : LD} {N2 : LW}
variable {f : Addr} {cdv : Value} {A0 : Around} {outer : List Env} {s0 : Shared} {H0 : Hp} {E : XK}
/-- stage, own = .. -/
theorem st1 (m : Ms P w K mg base T C CP CG CS M) (hr : Room 27 (A0.deeper (envOfC "law" (defScope sLaw) s0.heap.objs.size f cdv))) :
    ∃ t, PS (lawCx P w K mg base f cdv A0 outer s0 H0 E) (lawB.getD 1 noS) t ∧ ∀ (D : Ends) (a d fi : Addr) (A : Files) (H : Hp), TOk T H → H fi = some (.dK (fk A)) → Tok A → wayFree A →
      (∀ G r ow d1 d2 d3, Go T H G → M8 C T G ⟨r, d1, d2, d3, A, A, A, []⟩ ow fi fi fi A A A → (∀ b ∈ [r, d1, d2, d3, ow], Fresh H b) → D.nx (σW a d (some (.ref fi)) none r ow none none none none none none) G) →
      t D [some (.ref a), some (.ref d), some (.ref fi), none, none, none, none, none, none, none, none, none] H := by
  have hu := hu_of hr
  refine ⟨_, ps_par (i := 4) (j := 5) (by rfl) scLaw.nd rfl rfl (by decide) rfl rfl (pa_cons (pe_make m.mm m.GI (hr.mono (by decide)) rfl m.L.mgC m.bI .nil passN (pa_cons (pv 2) pa_nil)) (pa_cons (pe_disp (pps_cons pe_str (pv 2) (pps_cons pe_str (pv 2) (pps_cons pe_str (pv 2) pps_nil))) (by rfl) (by rfl) (fun z => by cases z) (by decide)) pa_nil)) (by rfl), fun D a d fi A H tk ef tA wA k1 => ?_⟩
  refine ⟨_, rfl, fun r dx hx hdx nx => ?_⟩
  have w2 : Go T H (upd H dx (.own r)) := go_upd tk hdx
  have hx2 : upd H dx (.own r) r = none := by rw [upd_ne (Ne.symm nx)]; exact hx
  have w3 : Go T (upd H dx (.own r)) (upd (upd H dx (.own r)) r (.ins C dx [])) := go_upd w2.2 hx2
  have w23 := w2.trans w3
  have er0 : upd (upd H dx (.own r)) r (.ins C dx []) r = some (.ins C dx []) := upd_same
  generalize upd (upd H dx (.own r)) r (.ins C dx []) = H2 at w3 w23 er0 ⊢
  have fr : Fresh H r := fresh_none hx
  refine ⟨r, dx, fi, A, rfl, er0, w23.at ef, tA.fok.sm, w3.2, fun z => absurd z (by rw [badF_no tA wA]; decide), fun _ G d1 d2 d3 g f1 f2 f3 sa => ⟨rfl, ?_⟩⟩
  have hG : Go T H G := GoE.news w23 g fun b hb => by rw [List.mem_singleton.mp hb]; exact fr
  have up : ∀ {d : Addr}, Fresh H2 d → Fresh H d := fun {d} f u e => by
    refine Classical.byContradiction fun z => ?_
    obtain ⟨ps, q⟩ := f u (w23.1 d u e (fun ps q => z ⟨ps, q⟩) (.inl (by simp)))
    exact z ⟨ps, q⟩
  have ef2 := hG.at ef
  intro ow how
  have w4 : Go T G (upd G ow (.dK [])) := go_upd hG.2 how
  refine ⟨_, rfl, _, rfl, _, rfl, upd_same, odK fi fi fi, rfl, by show 3 ≤ 15; decide, _, _, rfl, ?_⟩
  rw [upd_upd, show mergeK [] (odK fi fi fi) = odK fi fi fi from rfl]
  have w5 : Go T G (upd G ow (.dK (odK fi fi fi))) := go_upd hG.2 how
  have fow : Fresh H ow := fresh_of hG how
  have now : ow ≠ fi := fun z => by rw [z, ef2] at how; cases how
  have offF : ∀ {b : Addr}, Fresh H b → fi ≠ b := fun {b} f z => by
    obtain ⟨ps, e⟩ := f _ (by rw [← z]; exact ef)
    cases e
  have nfi : fi ∉ Sta.ad ⟨r, d1, d2, d3, A, A, A, []⟩ := fun z => by
    simp only [Sta.ad, List.mem_cons, List.not_mem_nil, or_false] at z
    rcases z with z | z | z | z
    · exact offF fr z
    · exact offF (up f1) z
    · exact offF (up f2) z
    · exact offF (up f3) z
  refine k1 _ r ow d1 d2 d3 (hG.trans w5) ⟨sa.go w5, ⟨upd_same, w5.at ef2, w5.at ef2, w5.at ef2, now, now, now⟩, fun b hb => ?_, w5.2⟩ fun b hb => ?_
  · simp only [List.mem_cons, List.not_mem_nil, or_false] at hb
    rcases hb with rfl | rfl | rfl | rfl
    · exact sa.off (fresh_none how)
    · exact nfi
    · exact nfi
    · exact nfi
  · simp only [List.mem_cons, List.not_mem_nil, or_false] at hb
    rcases hb with rfl | rfl | rfl | rfl | rfl
    · exact fr
    · exact up f1
    · exact up f2
    · exact up f3
    · exact fow
/-- stage.leave_out(..) -/
theorem st2 (m : Ms P w K mg base T C CP CG CS M) (hr : Room 27 (A0.deeper (envOfC "law" (defScope sLaw) s0.heap.objs.size f cdv))) :
    ∃ t, PS (lawCx P w K mg base f cdv A0 outer s0 H0 E) (lawB.getD 2 noS) t ∧ ∀ (D : Ends) (a d fi r ow d1 d2 d3 : Addr) (A : Files) (H : Hp), M8 C T H ⟨r, d1, d2, d3, A, A, A, []⟩ ow fi fi fi A A A → Tok A → wayFree A →
      (∀ G, Stp T H ⟨r, d1, d2, d3, A, A, A, []⟩ G ⟨r, d1, d2, d3, A, A, A, PATS⟩ → D8 C T G ⟨r, d1, d2, d3, A, A, A, PATS⟩ ow fi fi fi → D.nx (σW a d (some (.ref fi)) none r ow none none none none none none) G) →
      t D (σW a d (some (.ref fi)) none r ow none none none none none none) H := by
  have hu := hu_of hr
  refine ⟨_, ps_expr (pe_meth (pv 4) m.L.cl m.mL m.GL (hr.mono (by decide)) m.bL .nil passN (pa_cons (pe_tup (pa_cons pe_str (pa_cons pe_str (pa_cons pe_str pa_nil)))) pa_nil)), fun D a d fi r ow d1 d2 d3 A H a1 tA wA k1 => ?_⟩
  obtain ⟨⟨dx, tp, er, ep⟩, _⟩ := id a1.sa
  refine ⟨_, rfl, r, dx, _, rfl, er, look_no (by decide +kernel), by show 3 ≤ sizeLine; decide, fun t ht => ?_⟩
  have w1 : Go T H (upd H t (.tup (PATS.map V.str))) := go_upd a1.tk ht
  refine ⟨_, t, PATS, rfl, a1.sa.go w1, upd_same, w1.2, fun z => absurd z (by decide +kernel), fun _ G st sa => ?_⟩
  have a2 := a1.go w1
  have st0 : Stp T H ⟨r, d1, d2, d3, A, A, A, []⟩ (upd H t (.tup (PATS.map V.str))) ⟨r, d1, d2, d3, A, A, A, []⟩ := ⟨fun b o e n m => ⟨w1.1 b o e n (.inl (by simp)), m⟩, w1.t, w1.2⟩
  have a3 := a2.stp st sa
  exact k1 G (st0.trans st) ⟨a3.sa, ⟨tA, tA, tA, wA, wA, rfl⟩, a3.od, a3.off, a3.tk⟩
/-- if not _law_deed(..): .. -/
theorem sb0 (l : Lw P w K mg base T C N2) (hr : Room 27 (A0.deeper (envOfC "law" (defScope sLaw) s0.heap.objs.size f cdv))) :
    ∃ t, PS (lawCx P w K mg base f cdv A0 outer s0 H0 E) ((forB (lawB.getD 3 noS)).getD 0 noS) t ∧ ∀ (D : Ends) (a d ow la st wk : Addr) (s : Sta) (v2 v3 v6 v7 v8 v9 v10 v11 : Option V) (H : Hp), D8 C T H s ow la st wk → DiceAt H d → d ∉ s.ad →
      (∀ H' s' l' t' k', DStp T [ow, d] H s H' s' → D8 C T H' s' ow l' t' k' → DiceAt H' d → d ∉ s'.ad → D.nx (σW a d v2 v3 s.r ow v6 v7 v8 v9 v10 v11) H') →
      t D (σW a d v2 v3 s.r ow v6 v7 v8 v9 v10 v11) H := by
  have hu := hu_of hr
  refine ⟨_, ps_if (pt_not (pt_val (pe_call l.GD hr rfl l.mD l.kD l.bD .nil pass0 (pa_cons (pv 1) (pa_cons (pv 4) (pa_cons (pv 5) pa_nil)))))) (pss_one (ps_ret pe_bl)) pss_nil, fun D a d ow la st wk s v2 v3 v6 v7 v8 v9 v10 v11 H a8 dk nd k1 => ?_⟩
  exact ⟨_, rfl, _, rfl, _, rfl, s, d, ow, la, st, wk, rfl, a8, dk, nd, fun H' s' l' t' k' st8 a9 dk9 nd9 => ⟨_, rfl, iteF' (by decide) (k1 H' s' l' t' k' st8 a9 dk9 nd9)⟩⟩
/-- if stage.work != own["work"] or ..: .. -/
theorem sb1 (m : Ms P w K mg base T C CP CG CS M) (hr : Room 27 (A0.deeper (envOfC "law" (defScope sLaw) s0.heap.objs.size f cdv))) :
    ∃ t, PS (lawCx P w K mg base f cdv A0 outer s0 H0 E) ((forB (lawB.getD 3 noS)).getD 1 noS) t ∧ ∀ (D : Ends) (a d ow la st wk : Addr) (s : Sta) (v2 v3 v6 v7 v8 v9 v10 v11 : Option V) (H : Hp), D8 C T H s ow la st wk →
      D.nx (σW a d v2 v3 s.r ow v6 v7 v8 v9 v10 v11) H → t D (σW a d v2 v3 s.r ow v6 v7 v8 v9 v10 v11) H := by
  have hu := hu_of hr
  have hu0 : (lawCx P w K mg base f cdv A0 outer s0 H0 E).A.units < cLine := by have := hr.units; exact Nat.lt_of_le_of_lt (Nat.le_add_right _ 64) this
  refine ⟨_, ps_if (PW.pt (pw_or (pt_cmpR (op_neF hu0) (pe_fld (pv 4) rfl) (pe_dget hu (pv 5) pe_str (fun _ _ => rfl)) (nomark _)) (pw_or (pt_cmpR (op_neF hu0) (pe_fld (pv 4) rfl) (pe_dget hu (pv 5) pe_str (fun _ _ => rfl)) (nomark _)) (pw_or1 (pt_cmpR (op_neF hu0) (pe_fld (pv 4) rfl) (pe_dget hu (pv 5) pe_str (fun _ _ => rfl)) (nomark _)))))) (pss_one (ps_ret pe_bl)) pss_nil, fun D a d ow la st wk s v2 v3 v6 v7 v8 v9 v10 v11 H a8 k1 => ?_⟩
  obtain ⟨⟨dx, tp, er, ep⟩, el, es, ew, _⟩ := id a8.sa
  have gw : DGet H ow (.str "work") (some (.ref wk)) := DGet.k (k := Sum.inr "work") a8.od.e
  have gs : DGet H ow (.str "staged") (some (.ref st)) := DGet.k (k := Sum.inr "staged") a8.od.e
  have gl : DGet H ow (.str "last") (some (.ref la)) := DGet.k (k := Sum.inr "last") a8.od.e
  refine ⟨_, rfl, s.r, C, dx, _, _, rfl, er, m.L.cl, m.L.nW, look_w, _, rfl, ow, _, rfl, gw, s.dw, wk, s.W, s.W, rfl, rfl, ew, a8.od.ek, _, rfl, ?_⟩
  rw [eqF_self a8.iv.tw.nd]
  refine iteF ⟨_, rfl, s.r, C, dx, _, _, rfl, er, m.L.cl, m.L.nS, look_s, _, rfl, ow, _, rfl, gs, s.ds, st, s.S, s.S, rfl, rfl, es, a8.od.et, _, rfl, ?_⟩
  rw [eqF_self a8.iv.ts.nd]
  refine iteF ⟨_, rfl, s.r, C, dx, _, _, rfl, er, m.L.cl, m.L.nL, look_l, _, rfl, ow, _, rfl, gl, s.dl, la, s.L, s.L, rfl, rfl, el, a8.od.el, _, rfl, ?_⟩
  rw [eqF_self a8.iv.tl.nd]
  exact iteF k1
/-- if [path for path in files if ..] != []: .. -/
theorem sb2i (m : Ms P w K mg base T C CP CG CS M) (l : La P w K mg base T CS N) (hr : Room 27 (A0.deeper (envOfC "law" (defScope sLaw) s0.heap.objs.size f cdv))) :
    ∃ t, PSs (lawCx P w K mg base f cdv A0 outer s0 H0 E) (forB ((forB (lawB.getD 3 noS)).getD 2 noS)) t ∧ ∀ (D : Ends) (a d ow x : Addr) (s : Sta) (A : Files) (v3 v6 v7 v8 v9 v10 v11 : Option V) (H : Hp), TOk T H → H x = some (.dK (fk A)) → Tok A → wayFree A →
      (∀ G, Go T H G → D.nx (σW a d (some (.ref x)) v3 s.r ow v6 v7 v8 v9 v10 v11) G) → t D (σW a d (some (.ref x)) v3 s.r ow v6 v7 v8 v9 v10 v11) H := by
  have hu := hu_of hr
  refine ⟨_, pss_one (ps_if (pt_cmpR (op_neDK K rfl hr.units) (pe_lock (pe_lc (own := [("path", 3)]) (g := gName 3) rfl scLaw.nd (pi_keys (pv 2)) (blkOk_by (N := NLw) (sc := defScope sLaw) (by decide +kernel)) (fun _ _ _ _ _ => pg_name (i := 3) scLaw.nd rfl (Or.inl rfl))
        (fun _ _ _ _ _ => pts_one (pt_val (pe_call l.GW (hr.mono (by decide)) rfl l.mW l.kW l.bW .nil pass0 (pa_cons (pv 2) (pa_cons (pv 3) pa_nil))))) (fun _ _ _ _ _ => pv 3))) (pe_lst pa_nil) (nomark _)) (pss_one (ps_ret pe_bl)) pss_nil), fun D a d ow x s A v3 v6 v7 v8 v9 v10 v11 H tk ex tA wA k1 => ?_⟩
  refine lcK (i := 3) (A := A) (T := T) (Q := fun y G2 => tLst tNil (σW a d (some (.ref x)) v3 s.r ow v6 v7 v8 v9 v10 v11) G2 fun y2 H3 => rNeD K y y2 H3 fun z H4 => ∃ k, z = V.bl k ∧ (if k = true then D.rt (.bl false) H4 else D.nx (σW a d (some (.ref x)) v3 s.r ow v6 v7 v8 v9 v10 v11) H4))
    (way A) (fun _ y x => y = V.str x) (fun _ _ _ _ _ e => e) tk ex (by have := tA.fok.n; omega) (fun G kk h g q => ⟨_, rfl, q⟩) (fun y hy G kk od g e q => ?_) (fun y hy hb G Q' od g e q => ⟨_, rfl, q _ G (GoE.refl g.2) rfl⟩) fun G D2 ys g hD eD al => ?_
  · exact ⟨_, rfl, _, rfl, x, y, A, rfl, .inr ⟨od, e⟩, tA.fok.str, lok100 (pth_ok y (tA.key hy)).1, g.2, fun G' g' => ⟨_, rfl, q G' g'⟩⟩
  · refine ⟨by show 0 ≤ sizeLine; decide, fun qq hq => ?_⟩
    have en : (keysF A).filter (way A) = [] := List.filter_eq_nil_iff.mpr fun y hy => by
      rw [way_no.mpr fun z hz => wA y hy z hz]
      exact Bool.false_ne_true
    rw [en] at al
    refine strs_ne al (fun x hx => nomatch hx) (by rw [upd_ne (ne_of_none eD hq)]; exact eD) upd_same ⟨_, rfl, iteF' (by decide) ?_⟩
    exact k1 _ (g.trans (go_upd g.2 hq))
/-- for files in [..]: .. -/
theorem sb2 (m : Ms P w K mg base T C CP CG CS M) (l : La P w K mg base T CS N) (hr : Room 27 (A0.deeper (envOfC "law" (defScope sLaw) s0.heap.objs.size f cdv))) :
    ∃ t, PS (lawCx P w K mg base f cdv A0 outer s0 H0 E) ((forB (lawB.getD 3 noS)).getD 2 noS) t ∧ ∀ (D : Ends) (a d ow la st wk : Addr) (s : Sta) (v2 v3 v6 v7 v8 v9 v10 v11 : Option V) (H : Hp), D8 C T H s ow la st wk →
      (∀ G w2, Go T H G → D.nx (σW a d w2 v3 s.r ow v6 v7 v8 v9 v10 v11) G) → t D (σW a d v2 v3 s.r ow v6 v7 v8 v9 v10 v11) H := by
  have hu := hu_of hr
  obtain ⟨t2, h2, k2⟩ := sb2i (f := f) (cdv := cdv) (A0 := A0) (outer := outer) (s0 := s0) (H0 := H0) (E := E) m l hr
  refine ⟨_, ps_for PassesOwn.never rfl (pi_listK K rfl (pe_lst (pa_cons (pe_fld (pv 4) rfl) (pa_cons (pe_fld (pv 4) rfl) pa_nil)))) (pg_name (i := 2) scLaw.nd rfl (Or.inr rfl)) h2, fun D a d ow la st wk s v2 v3 v6 v7 v8 v9 v10 v11 H a8 k1 => ?_⟩
  obtain ⟨⟨dx, tp, er, ep⟩, el, es, ew, _⟩ := id a8.sa
  refine ⟨_, rfl, s.r, C, dx, _, _, rfl, er, m.L.cl, m.L.nW, look_w, _, rfl, s.r, C, dx, _, _, rfl, er, m.L.cl, m.L.nS, look_s, by show 2 ≤ sizeLine; decide, fun ll hl => ?_⟩
  have w1 : Go T H (upd H ll (.lst [.ref s.dw, .ref s.ds])) := go_upd a8.tk hl
  have e1 : upd H ll (.lst [.ref s.dw, .ref s.ds]) ll = some (.lst [.ref s.dw, .ref s.ds]) := upd_same
  generalize upd H ll (.lst [.ref s.dw, .ref s.ds]) = G1 at w1 e1 ⊢
  refine ⟨ll, rfl, ⟨_, SqL.of e1⟩, for_list (xs := [.ref s.dw, .ref s.ds]) (fun i σ G => Go T G1 G ∧ ∃ w2, σ = σW a d w2 v3 s.r ow v6 v7 v8 v9 v10 v11) ⟨GoE.refl w1.2, v2, rfl⟩ (fun i σ G _ h => SqL.of (h.1.at e1)) (fun i x σ G hix h => ?_) (fun σ G h => ?_)⟩
  · obtain ⟨g, w2, rfl⟩ := h
    have gg := w1.trans g
    rcases i with _ | _ | i
    · cases hix
      exact k2 _ a d ow s.dw s s.W v3 v6 v7 v8 v9 v10 v11 G g.2 (gg.at ew) a8.iv.tw a8.iv.fw fun G' g' => ⟨g.trans g', _, rfl⟩
    · cases hix
      exact k2 _ a d ow s.ds s s.S v3 v6 v7 v8 v9 v10 v11 G g.2 (gg.at es) a8.iv.ts a8.iv.fs fun G' g' => ⟨g.trans g', _, rfl⟩
    · cases hix
  · obtain ⟨g, w2, rfl⟩ := h
    exact k1 G w2 (w1.trans g)
end
end Sg
end Text_S44
section Text_S45
set_option Elab.async false
set_option linter.all false
set_option maxRecDepth 100000
set_option maxHeartbeats 2000000
namespace Sg
open PySem PySem.Spec PyProof.Rows L2 Gx GxR LamY LamZ
section
variable {P : Program} {w : World} {K : PySem.W.Frag} {mg : Str → Option Value} {base : Heap} {T : Tb} {C CP CG CS : Addr} {M : MD} {N : LD} {N2 : LW}
variable {f : Addr} {cdv : Value} {A0 : Around} {outer : List Env} {s0 : Shared} {H0 : Hp} {E : XK}
/-- for step in ..: .. -/
theorem st3 (m : Ms P w K mg base T C CP CG CS M) (l : La P w K mg base T CS N) (l2 : Lw P w K mg base T C N2) (hr : Room 27 (A0.deeper (envOfC "law" (defScope sLaw) s0.heap.objs.size f cdv))) :
    ∃ t, PS (lawCx P w K mg base f cdv A0 outer s0 H0 E) (lawB.getD 3 noS) t ∧ ∀ (D : Ends) (a d ow la st wk ll : Addr) (s : Sta) (v2 : Option V) (H : Hp), D8 C T H s ow la st wk → DiceAt H d → d ∉ s.ad → H ll = some (.lst [.ref d]) → ll ∉ s.ad →
      (∀ G s' la st wk w2 w6, D8 C T G s' ow la st wk → s'.r = s.r → DiceAt G d → d ∉ s'.ad → G ll = some (.lst [.ref d]) → D.nx (σW a d w2 none s.r ow w6 none none none none none) G) →
      t D (σW a d v2 none s.r ow none none none none none none) H := by
  obtain ⟨t0, p0, q0⟩ := sb0 (f := f) (cdv := cdv) (A0 := A0) (outer := outer) (s0 := s0) (H0 := H0) (E := E) l2 hr
  obtain ⟨t1, p1, q1⟩ := sb1 (f := f) (cdv := cdv) (A0 := A0) (outer := outer) (s0 := s0) (H0 := H0) (E := E) m hr
  obtain ⟨t2, p2, q2⟩ := sb2 (f := f) (cdv := cdv) (A0 := A0) (outer := outer) (s0 := s0) (H0 := H0) (E := E) m l hr
  refine ⟨_, ps_for PassesOwn.never rfl (pi_range1 rfl m.Y.range (pa_cons (pe_call l.GR (hr.mono (by decide)) rfl l.mR l.kR l.bR .nil pass0 (pa_cons (pv 1) (pa_cons pe_int pa_nil))) pa_nil)) (pg_name (i := 6) scLaw.nd rfl (Or.inl rfl))
      (pss_cons p0 (pss_cons p1 (pss_one p2))), fun D a d ow la st wk ll s v2 H a8 dk nd el nl k1 => ?_⟩
  refine ⟨_, rfl, d, 31, rfl, by decide, by decide, dk, fun r0 xs0 h0 h6 dv0 => ⟨r0, rfl, by omega, by omega, for_range (lo := 0) (n := r0.toNat) (fun i σ G => ∃ s' la st wk w2 w6, σ = σW a d w2 none s.r ow w6 none none none none none ∧ D8 C T G s' ow la st wk ∧ s'.r = s.r ∧ DiceAt G d ∧ d ∉ s'.ad ∧ G ll = some (.lst [.ref d]) ∧ ll ∉ s'.ad) ?_ ?_ ?_⟩⟩
  · obtain ⟨g0, dk0⟩ := roll_go (S := [d]) (GoE.refl a8.tk) (by simp) dk dv0
    have nld : ll ≠ d := fun z => by
      obtain ⟨xs, e, x, y, z2, rfl⟩ := dk
      rw [← z, el] at e
      cases e
    exact ⟨s, la, st, wk, v2, none, rfl, a8.goe dk nd g0, rfl, dk0, nd, g0.at el (by simpa using nld), nl⟩
  · intro i σ G hi h
    obtain ⟨s', la, st, wk, w2, w6, rfl, aG, er, dkG, ndG, elG, nlG⟩ := h
    rw [← er]
    have nld : ll ≠ d := fun z => by
      obtain ⟨xs, e, x, y, z2, rfl⟩ := dkG
      rw [← z, elG] at e
      cases e
    have nlo : ll ≠ ow := fun z => by
      have := aG.od.e
      rw [← z, elG] at this
      cases this
    refine q0 _ a d ow la st wk s' w2 none _ none none none none none G aG dkG ndG fun G1 s1 la1 st1 wk1 stp a1 dk1 nd1 => ?_
    obtain ⟨⟨o', e', _, k'⟩, nl1⟩ := stp.1 ll _ elG (by intro _ q; cases q) nlG
    have := k' (by simp [nld, nlo])
    rw [this] at e'
    have er1 : s1.r = s'.r := stp.2.2.2
    rw [← er1]
    refine q1 _ a d ow la1 st1 wk1 s1 w2 none _ none none none none none G1 a1 ?_
    refine q2 _ a d ow la1 st1 wk1 s1 w2 none _ none none none none none G1 a1 fun G2 w2' g2 => ?_
    exact ⟨s1, la1, st1, wk1, w2', _, rfl, a1.go g2, rfl, dk1.go g2, nd1, g2.at e', nl1⟩
  · intro σ G h
    obtain ⟨s', la, st, wk, w2, w6, rfl, aG, er, dkG, ndG, elG, nlG⟩ := h
    exact k1 G s' la st wk w2 w6 aG er dkG ndG elG
/-- lying = .. -/
theorem st4 (l2 : Lw P w K mg base T C N2) (hr : Room 27 (A0.deeper (envOfC "law" (defScope sLaw) s0.heap.objs.size f cdv))) :
    ∃ t, PS (lawCx P w K mg base f cdv A0 outer s0 H0 E) (lawB.getD 4 noS) t ∧ ∀ (D : Ends) (a d ow la st wk : Addr) (s : Sta) (v2 v6 : Option V) (H : Hp), D8 C T H s ow la st wk →
      (∀ G ly xs, Go T H G → G ly = some (.lst xs) → All2 (PairAt G) xs (chg s.S s.W) → D.nx (σW a d v2 none s.r ow v6 (some (.ref ly)) none none none none) G) →
      t D (σW a d v2 none s.r ow v6 none none none none none) H := by
  have hu := hu_of hr
  refine ⟨_, ps_set (i := 7) scLaw.nd rfl (Or.inl rfl) (pe_call l2.GC (hr.mono (by decide)) rfl l2.mC l2.kC l2.bC .nil pass0 (pa_cons (pe_dget hu (pv 5) pe_str (fun _ _ => rfl)) (pa_cons (pe_dget hu (pv 5) pe_str (fun _ _ => rfl)) pa_nil))), fun D a d ow la st wk s v2 v6 H a8 k1 => ?_⟩
  have gw : DGet H ow (.str "work") (some (.ref wk)) := DGet.k (k := Sum.inr "work") a8.od.e
  have gs : DGet H ow (.str "staged") (some (.ref st)) := DGet.k (k := Sum.inr "staged") a8.od.e
  exact ⟨_, rfl, ow, _, rfl, gs, _, rfl, ow, _, rfl, gw, st, wk, s.S, s.W, rfl, a8.od.et, a8.od.ek, a8.iv.ts.fok.n, a8.iv.tw.fok.n, a8.tk, fun G t xs g e al => k1 G t xs g e al⟩
/-- rows that lie otherwise; paths that come and aren't left out -/
theorem all2_take {α β : Type} {F : α → β → Prop} {xs : List α} {ys : List β} {i : Nat} {x : α} (a : All2 F xs ys) (h : xs[i]? = some x) : ∃ y, ys[i]? = some y ∧ F x y ∧ ys.take (i + 1) = ys.take i ++ [y] := by
  obtain ⟨y, hy, q⟩ := a.at h
  exact ⟨y, hy, q, take_snoc hy⟩
/-- due = .. -/
theorem st5 (m : Ms P w K mg base T C CP CG CS M) (l : La P w K mg base T CS N) (l2 : Lw P w K mg base T C N2) (hr : Room 27 (A0.deeper (envOfC "law" (defScope sLaw) s0.heap.objs.size f cdv))) :
    ∃ t, PS (lawCx P w K mg base f cdv A0 outer s0 H0 E) (lawB.getD 5 noS) t ∧ ∀ (D : Ends) (a d ow la st wk ly : Addr) (s : Sta) (v2 v6 : Option V) (xs : List V) (H : Hp), D8 C T H s ow la st wk → H ly = some (.lst xs) → All2 (PairAt H) xs (chg s.S s.W) →
      (∀ G du x1 x2 x3 y1 y2, Go T H G → G du = some (.tup [.ref x1, .ref x2, .ref x3]) → G x1 = some (.lst y1) → All2 (PairAt G) y1 (chg s.L s.S) → G x2 = some (.lst y2) → All2 (PairAt G) y2 (lyingOf s) → G x3 = some (.lst ((freshOf s).map V.str)) →
        D.nx (σW a d v2 none s.r ow v6 (some (.ref ly)) (some (.ref du)) none none none) G) →
      t D (σW a d v2 none s.r ow v6 (some (.ref ly)) none none none none) H := by
  have hu := hu_of hr
  refine ⟨_, ps_set (i := 8) scLaw.nd rfl (Or.inl rfl) (pe_tup (pa_cons (pe_call l2.GC (hr.mono (by decide)) rfl l2.mC l2.kC l2.bC .nil pass0 (pa_cons (pe_dget hu (pv 5) pe_str (fun _ _ => rfl)) (pa_cons (pe_dget hu (pv 5) pe_str (fun _ _ => rfl)) pa_nil)))
      (pa_cons (pe_lc (own := [("row", 9)]) (g := gName 9) rfl scLaw.nd (pi_listK K rfl (pv 7)) (blkOk_by (N := NLw) (sc := defScope sLaw) (by decide +kernel)) (fun _ _ _ _ _ => pg_name (i := 9) scLaw.nd rfl (Or.inl rfl))
          (fun _ _ _ _ _ => pts_one (pt_cmpR op_ne (pe_ix (ix_tupK K rfl) (pv 9) pe_int (fun _ _ => rfl)) pe_str (nomark _))) (fun _ _ _ _ _ => pv 9))
      (pa_cons (pe_lc (own := [("what", 10), ("path", 3)]) rfl scLaw.nd (pi_listK K rfl (pv 7)) (blkOk_by (N := NLw) (sc := defScope sLaw) (by decide +kernel))
          (fun _ _ _ _ _ => pg_tupK K 2 rfl rfl (pgs_cons (pg_name (i := 10) scLaw.nd rfl (Or.inl rfl)) (pgs_cons (pg_name (i := 3) scLaw.nd rfl (Or.inl rfl)) pgs_nil)))
          (fun _ _ _ _ _ => pts_one (PW.pt (pw_and (pt_cmpR op_eq (pv 10) pe_str (nomark _)) (pw_and1 (pt_not (pt_val (pe_call l.GO (hr.mono (by decide)) rfl l.mO l.kO l.bO .nil pass0 (pa_cons (pv 3) pa_nil))))))))
          (fun _ _ _ _ _ => pv 3)) pa_nil)))), fun D a d ow la st wk ly s v2 v6 xs H a8 ely aly k1 => ?_⟩
  have gl : DGet H ow (.str "last") (some (.ref la)) := DGet.k (k := Sum.inr "last") a8.od.e
  have gs : DGet H ow (.str "staged") (some (.ref st)) := DGet.k (k := Sum.inr "staged") a8.od.e
  refine ⟨_, rfl, ow, _, rfl, gl, _, rfl, ow, _, rfl, gs, la, st, s.L, s.S, rfl, a8.od.el, a8.od.et, a8.iv.tl.fok.n, a8.iv.ts.fok.n, a8.tk, fun G1 x1 y1 g1 e1 al1 => ?_⟩
  have xl : xs.length ≤ 20 := by
    rw [aly.1]
    have h1 := chg_len s.S s.W
    have h2 := a8.iv.ts.fok.n
    have h3 := a8.iv.tw.fok.n
    omega
  have e1y := g1.at ely
  have a1y := aly.imp fun _ _ h => PairAt.ext h g1.t
  refine ⟨_, rfl, ly, rfl, ⟨_, SqL.of e1y⟩, fun D2 hD2 => ?_⟩
  have w2 : Go T G1 (upd G1 D2 (.lst [])) := go_upd g1.2 hD2
  have nw2 : ∀ {G : Hp}, GoE T [D2] (upd G1 D2 (.lst [])) G → Go T G1 G := fun g => GoE.news w2 g fun b hb => by rw [List.mem_singleton.mp hb]; exact fresh_none hD2
  have nl2 : ly ≠ D2 := ne_of_none e1y hD2
  have ev : ∀ (x y : Str), decide (V.str x = V.str y) = decide (x = y) := fun x y => decide_eq_decide.mpr ⟨V.str.inj, congrArg _⟩
  refine lc_list (xs := xs) (fun i G => GoE T [D2] (upd G1 D2 (.lst [])) G ∧ ∃ ys, G D2 = some (.lst ys) ∧ All2 (PairAt G) ys (((chg s.S s.W).take i).filter fun r => !decide (r.1 = ("come" : Str)))) ⟨GoE.refl w2.2, [], upd_same, All2.nil⟩ (fun i G _ h => SqL.of ((nw2 h.1).at e1y)) (fun i x G hix h => ?_) fun G2 h => ?_
  · obtain ⟨g, ys, eD, al⟩ := h
    obtain ⟨r, hr1, hx, tk1⟩ := all2_take a1y hix
    obtain ⟨t, rfl, et⟩ := hx.ext (nw2 g).t
    have hl : ys.length ≤ 20 := by
      rw [al.1]
      have h1 := List.length_filter_le (fun r : Str × Str => !decide (r.1 = ("come" : Str))) ((chg s.S s.W).take i)
      rw [List.length_take] at h1
      rw [aly.1] at xl
      omega
    refine ⟨rfl, _, rfl, t, _, _, .str r.1, rfl, rfl, SqT.of et, rfl, rfl, _, rfl, ?_⟩
    rw [ev, tk1, List.filter_append]
    by_cases hc : r.1 = "come"
    · refine (if_neg (by rw [decide_eq_true hc]; decide)).mpr ⟨g, ys, eD, ?_⟩
      rw [show [r].filter (fun r => !decide (r.1 = ("come" : Str))) = [] by simp [hc], List.append_nil]
      exact al
    · have w5 : GoE T [D2] G (upd G D2 (.lst (ys ++ [.ref t]))) := go_set g.2 eD mu_lst (by simp)
      refine (if_pos (by rw [decide_eq_false hc]; rfl)).mpr ⟨_, rfl, ys, eD, by rw [sizeLine_eq]; omega, g.trans w5, _, upd_same, ?_⟩
      rw [show [r].filter (fun r => !decide (r.1 = ("come" : Str))) = [r] by simp [hc]]
      exact (al.imp fun _ _ h => PairAt.ext h w5.t).snoc ⟨t, rfl, w5.t _ _ et⟩
  obtain ⟨g2', y2, e2, al2⟩ := h
  have g2 := nw2 g2'
  rw [aly.1, List.take_length] at al2
  have g12 := g1.trans g2
  have e2y := g2.at e1y
  have a2y := a1y.imp fun _ _ h => PairAt.ext h g2.t
  refine ⟨_, rfl, ly, rfl, ⟨_, SqL.of e2y⟩, fun D3 hD3 => ?_⟩
  have w3 : Go T G2 (upd G2 D3 (.lst [])) := go_upd g12.2 hD3
  have nw3 : ∀ {G : Hp}, GoE T [D3] (upd G2 D3 (.lst [])) G → Go T G2 G := fun g => GoE.news w3 g fun b hb => by rw [List.mem_singleton.mp hb]; exact fresh_none hD3
  have pin : ∀ r ∈ chg s.S s.W, r.2 ∈ PTH := fun r hr => by
    rcases paths_mem (chg_mem hr) with ⟨q, hq, e⟩ | ⟨q, hq, e⟩
    · rw [← e]; exact (a8.iv.ts.k q hq).1
    · rw [← e]; exact (a8.iv.tw.k q hq).1
  refine lc_list (xs := xs) (fun i G => GoE T [D3] (upd G2 D3 (.lst [])) G ∧ G D3 = some (.lst (((((chg s.S s.W).take i).filter fun r => decide (r.1 = ("come" : Str)) && !leftOut s.P r.2).map (·.2)).map V.str))) ⟨GoE.refl w3.2, upd_same⟩ (fun i G _ h => SqL.of ((nw3 h.1).at e2y)) (fun i x G hix h => ?_) fun G3 h => ?_
  · obtain ⟨g, eD⟩ := h
    obtain ⟨r, hr1, hx, tk1⟩ := all2_take a2y hix
    obtain ⟨t, rfl, et⟩ := hx.ext (nw3 g).t
    have hl : (((((chg s.S s.W).take i).filter fun r => decide (r.1 = ("come" : Str)) && !leftOut s.P r.2).map (·.2)).map V.str).length ≤ 20 := by
      rw [List.length_map, List.length_map]
      have h1 := List.length_filter_le (fun r : Str × Str => decide (r.1 = ("come" : Str)) && !leftOut s.P r.2) ((chg s.S s.W).take i)
      rw [List.length_take] at h1
      rw [aly.1] at xl
      omega
    obtain ⟨n, rr, es, eo, l1, l2', l3⟩ := out_ok r.2 (pin r (List.mem_of_getElem? hr1))
    have fs : ∀ {q : Bool}, (decide (r.1 = ("come" : Str)) && !leftOut s.P r.2) = q → [r].filter (fun r => decide (r.1 = ("come" : Str)) && !leftOut s.P r.2) = if q = true then [r] else [] := fun {q} h => by
      rw [List.filter_cons, h]
      cases q <;> rfl
    refine ⟨t, _, rfl, SqT.of et, rfl, _, _, rfl, _, _, rfl, rfl, rfl, _, rfl, rfl, _, rfl, ?_⟩
    rw [ev, tk1, List.filter_append]
    by_cases hc : r.1 = "come"
    · refine (if_pos (decide_eq_true hc)).mpr ⟨_, rfl, r.2, n, rr, rfl, es, l1, l2', l3, g.2, fun G' g' => ⟨_, rfl, ?_⟩⟩
      have eD' : G' D3 = _ := g'.at eD
      have gg := g.trans (Go.any g')
      cases ho : outN n with
      | true =>
        rw [fs (q := false) (by rw [a8.iv.pp, ← eo, ho, decide_eq_true hc]; rfl)]
        refine iteF' (by decide) ⟨gg, ?_⟩
        rw [if_neg (by decide), List.append_nil]
        exact eD'
      | false =>
        rw [fs (q := true) (by rw [a8.iv.pp, ← eo, ho, decide_eq_true hc]; rfl)]
        have w5 : GoE T [D3] G' (upd G' D3 (.lst (((((chg s.S s.W).take i).filter fun r => decide (r.1 = ("come" : Str)) && !leftOut s.P r.2).map (·.2)).map V.str ++ [.str r.2]))) := go_set gg.2 eD' mu_lst (by simp)
        refine iteT ⟨_, rfl, _, eD', by rw [sizeLine_eq]; omega, gg.trans w5, ?_⟩
        rw [upd_same, if_pos rfl, List.map_append, List.map_append]
        rfl
    · rw [fs (q := false) (by rw [decide_eq_false hc]; rfl)]
      refine (if_neg (by rw [decide_eq_false hc]; decide)).mpr (iteF' (by decide) ⟨g, ?_⟩)
      rw [if_neg (by decide), List.append_nil]
      exact eD
  obtain ⟨g3', e3⟩ := h
  have g3 := nw3 g3'
  rw [aly.1, List.take_length] at e3
  have g13 := g12.trans g3
  refine ⟨by show 3 ≤ sizeLine; decide, fun du hdu => ?_⟩
  have w6 : Go T G3 (upd G3 du (.tup [.ref x1, .ref D2, .ref D3])) := go_upd g13.2 hdu
  have u := (g2.trans g3).trans w6
  exact k1 _ du x1 D2 D3 y1 y2 (g13.trans w6) upd_same (u.at e1) (al1.imp fun _ _ h => PairAt.ext h u.t) ((g3.trans w6).at e2) (al2.imp fun _ _ h => PairAt.ext h (g3.trans w6).t) (w6.at e3)
end
end Sg
end Text_S45
section Text_S46
set_option Elab.async false
set_option linter.all false
set_option maxRecDepth 100000
set_option maxHeartbeats 2000000
namespace Sg
open PySem PySem.Spec PyProof.Rows L2 Gx GxR LamY LamZ
def P4 : List Str := ["a", "a/b", "d", "q"]
theorem p4_ok : ∀ p ∈ P4, lokB p = true := by decide +kernel
def spLaw (K : PySem.W.Frag) (T : Tb) : Sp := fun vs H Q _ => ∃ a xs, vs = [.ref a] ∧ SqL K H a xs ∧ intsV xs ∧ TOk T H ∧ ∀ H', Q (.bl true) H'
section
variable {P : Program} {w : World} {K : PySem.W.Frag} {mg : Str → Option Value} {base : Heap} {T : Tb} {C CP CG CS : Addr} {M : MD} {N : LD} {N2 : LW}
variable {f : Addr} {cdv : Value} {A0 : Around} {outer : List Env} {s0 : Shared} {H0 : Hp} {E : XK}
/-- told = stage.status(); if (..) != due: .. -/
theorem st67 (m : Ms P w K mg base T C CP CG CS M) (hr : Room 27 (A0.deeper (envOfC "law" (defScope sLaw) s0.heap.objs.size f cdv))) {rest : List Stmt} {tr : TS} (h3 : PSs (lawCx P w K mg base f cdv A0 outer s0 H0 E) rest tr) :
    ∃ t, PSs (lawCx P w K mg base f cdv A0 outer s0 H0 E) (lawB.getD 6 noS :: lawB.getD 7 noS :: rest) t ∧ ∀ (D : Ends) (a d ow la st wk ly du x1 x2 x3 : Addr) (y1 y2 : List V) (s : Sta) (v2 v6 : Option V) (H : Hp), D8 C T H s ow la st wk →
      H du = some (.tup [.ref x1, .ref x2, .ref x3]) → H x1 = some (.lst y1) → All2 (PairAt H) y1 (chg s.L s.S) → H x2 = some (.lst y2) → All2 (PairAt H) y2 (lyingOf s) → H x3 = some (.lst ((freshOf s).map V.str)) →
      (∀ G v11, Go T H G → tr D (σW a d v2 none s.r ow v6 (some (.ref ly)) (some (.ref du)) none none v11) G) →
      t D (σW a d v2 none s.r ow v6 (some (.ref ly)) (some (.ref du)) none none none) H := by
  have hu := hu_of hr
  have li : ∀ (i : Nat), True := fun _ => trivial
  refine ⟨_, pss_cons (ps_set (i := 11) scLaw.nd rfl (Or.inl rfl) (pe_meth0 (pv 4) m.L.cl m.mS m.GS (hr.mono (by decide)) m.bS .nil pass0))
      (pss_cons (ps_if (pt_cmpR (op_neDK K rfl hr.units) (pe_tup (pa_cons (pe_callTy (call_list_ofK K rfl) (by rfl) m.Y.list (by decide +kernel) (pa_cons (pe_ix (ix_tupK K rfl) (pv 11) pe_int (fun _ _ => rfl)) pa_nil))
          (pa_cons (pe_callTy (call_list_ofK K rfl) (by rfl) m.Y.list (by decide +kernel) (pa_cons (pe_ix (ix_tupK K rfl) (pv 11) pe_int (fun _ _ => rfl)) pa_nil))
          (pa_cons (pe_callTy (call_list_ofK K rfl) (by rfl) m.Y.list (by decide +kernel) (pa_cons (pe_ix (ix_tupK K rfl) (pv 11) pe_int (fun _ _ => rfl)) pa_nil)) pa_nil)))) (pv 8) (nomark _)) (pss_one (ps_ret pe_bl)) pss_nil) h3), fun D a d ow la st wk ly du x1 x2 x3 y1 y2 s v2 v6 H a8 ed e1 al1 e2 al2 e3 k1 => ?_⟩
  obtain ⟨⟨dx, tp, er, ep⟩, _⟩ := id a8.sa
  refine ⟨_, rfl, s.r, dx, _, rfl, er, look_no (by decide +kernel), s, rfl, a8.sa, a8.iv.sok, a8.tk, fun G t t1 t2 t3 z1 z2 g et et1 bl1 et2 bl2 et3 => ?_⟩
  refine ⟨_, rfl, t, _, _, .ref t1, rfl, rfl, SqT.of et, rfl, t1, _, rfl, .inr (SqT.of et1), fun l1 hl1 => ?_⟩
  have v1 : Go T G (upd G l1 (.lst z1)) := go_upd g.2 hl1
  have c1 : upd G l1 (.lst z1) l1 = some (.lst z1) := upd_same
  generalize upd G l1 (.lst z1) = V1 at v1 c1 ⊢
  refine ⟨_, rfl, t, _, _, .ref t2, rfl, rfl, SqT.of (v1.t _ _ et), rfl, t2, _, rfl, .inr (SqT.of (v1.t _ _ et2)), fun l2 hl2 => ?_⟩
  have v2' : Go T V1 (upd V1 l2 (.lst z2)) := go_upd v1.2 hl2
  have c2 : upd V1 l2 (.lst z2) l2 = some (.lst z2) := upd_same
  generalize upd V1 l2 (.lst z2) = V2 at v2' c2 ⊢
  have v12 := v1.trans v2'
  refine ⟨_, rfl, t, _, _, .ref t3, rfl, rfl, SqT.of (v12.t _ _ et), rfl, t3, _, rfl, .inr (SqT.of (v12.t _ _ et3)), fun l3 hl3 => ⟨by show 3 ≤ sizeLine; decide, fun tt htt => ?_⟩⟩
  have v3 : Go T V2 (upd V2 l3 (.lst ((freshOf s).map V.str))) := go_upd v12.2 hl3
  have c3 : upd V2 l3 (.lst ((freshOf s).map V.str)) l3 = some (.lst ((freshOf s).map V.str)) := upd_same
  generalize upd V2 l3 (.lst ((freshOf s).map V.str)) = V3 at v3 c3 htt ⊢
  have v4 : Go T V3 (upd V3 tt (.tup [.ref l1, .ref l2, .ref l3])) := go_upd v3.2 htt
  have c4 : upd V3 tt (.tup [.ref l1, .ref l2, .ref l3]) tt = some (.tup [.ref l1, .ref l2, .ref l3]) := upd_same
  generalize upd V3 tt (.tup [.ref l1, .ref l2, .ref l3]) = V4 at v4 c4 ⊢
  have vv := (v12.trans v3).trans v4
  have gg := g.trans vv
  have ok1 : ∀ r ∈ chg s.L s.S, okS r.1 ∧ okS r.2 := chg_ok a8.iv.sok.fl.ok a8.iv.sok.fs.ok
  have ok2 : ∀ r ∈ lyingOf s, okS r.1 ∧ okS r.2 := fun r hr => chg_ok a8.iv.sok.fs.ok a8.iv.sok.fw.ok r (List.mem_filter.mp hr).1
  have ok3 : ∀ p ∈ freshOf s, okS p := fun p hp => by
    obtain ⟨r, hr, rfl⟩ := List.mem_map.mp hp
    exact (chg_ok a8.iv.sok.fs.ok a8.iv.sok.fw.ok r (List.mem_filter.mp hr).1).2
  have plp : ∀ {rs : List (Str × Str)}, (∀ r ∈ rs, okS r.1 ∧ okS r.2) → Pl 3 (.list (rs.map pairD)) = true := fun {rs} h => by
    show (rs.map pairD).all (Pl 2) = true
    rw [List.all_eq_true]
    intro x hx
    obtain ⟨r, hr, rfl⟩ := List.mem_map.mp hx
    show ([.str r.1, .str r.2] : List PyData).all (Pl 1) = true
    rw [List.all_cons, List.all_cons, List.all_nil, Bool.and_true, Bool.and_eq_true]
    exact h r hr
  have pl : Pl 4 (.tuple [.list ((chg s.L s.S).map pairD), .list ((lyingOf s).map pairD), .list ((freshOf s).map PyData.str)]) = true := by
    show ([.list ((chg s.L s.S).map pairD), .list ((lyingOf s).map pairD), .list ((freshOf s).map PyData.str)] : List PyData).all (Pl 3) = true
    rw [List.all_cons, List.all_cons, List.all_cons, List.all_nil, Bool.and_true, Bool.and_eq_true, Bool.and_eq_true]
    exact ⟨plp ok1, plp ok2, pl_strs ok3⟩
  refine ⟨_, rfl, .tuple [.list ((chg s.L s.S).map pairD), .list ((lyingOf s).map pairD), .list ((freshOf s).map PyData.str)], .tuple [.list ((chg s.L s.S).map pairD), .list ((lyingOf s).map pairD), .list ((freshOf s).map PyData.str)],
    .tup (SqT.of c4) (.cons (.lst (SqL.of (((v2'.trans v3).trans v4).at c1)) (dp_pairs (bl1.imp fun _ _ h => PairAt.ext h vv.t))) (.cons (.lst (SqL.of ((v3.trans v4).at c2)) (dp_pairs (bl2.imp fun _ _ h => PairAt.ext h vv.t))) (.cons (.lst (SqL.of (v4.at c3)) (dp_strs _)) .nil))),
    .tup (SqT.of (gg.t _ _ ed)) (.cons (.lst (SqL.of (gg.at e1)) (dp_pairs (al1.imp fun _ _ h => PairAt.ext h gg.t))) (.cons (.lst (SqL.of (gg.at e2)) (dp_pairs (al2.imp fun _ _ h => PairAt.ext h gg.t))) (.cons (.lst (SqL.of (gg.at e3)) (dp_strs _)) .nil))),
    pl_shaped pl (by decide), pl_shaped pl (by decide), _, rfl, ?_⟩
  rw [eqv_self pl]
  exact iteF' (by decide) (k1 V4 _ gg)
/-- if stage.is_clean() != (..): .. -/
theorem st8 (m : Ms P w K mg base T C CP CG CS M) (hr : Room 27 (A0.deeper (envOfC "law" (defScope sLaw) s0.heap.objs.size f cdv))) :
    ∃ t, PS (lawCx P w K mg base f cdv A0 outer s0 H0 E) (lawB.getD 8 noS) t ∧ ∀ (D : Ends) (a d ow la st wk ly du x1 x2 x3 : Addr) (y1 y2 : List V) (s : Sta) (v2 v6 v11 : Option V) (H : Hp), D8 C T H s ow la st wk →
      H du = some (.tup [.ref x1, .ref x2, .ref x3]) → H x1 = some (.lst y1) → All2 (PairAt H) y1 (chg s.L s.S) → H x2 = some (.lst y2) → All2 (PairAt H) y2 (lyingOf s) →
      (∀ G, Go T H G → D.nx (σW a d v2 none s.r ow v6 (some (.ref ly)) (some (.ref du)) none none v11) G) →
      t D (σW a d v2 none s.r ow v6 (some (.ref ly)) (some (.ref du)) none none v11) H := by
  have hu := hu_of hr
  refine ⟨_, ps_if (pt_cmpR op_ne (pe_meth0 (pv 4) m.L.cl m.mC m.GC (hr.mono (by decide)) m.bC .nil pass0) (pe_and (pe_cmpR (op_eqDK K rfl hr.units) (pe_ix (ix_tupK K rfl) (pv 8) pe_int (fun _ _ => rfl)) (pe_lst pa_nil) (nomark _)) (pe_one (pe_cmpR (op_eqDK K rfl hr.units) (pe_ix (ix_tupK K rfl) (pv 8) pe_int (fun _ _ => rfl)) (pe_lst pa_nil) (nomark _)))) (nomark _)) (pss_one (ps_ret pe_bl)) pss_nil, fun D a d ow la st wk ly du x1 x2 x3 y1 y2 s v2 v6 v11 H a8 ed e1 al1 e2 al2 k1 => ?_⟩
  obtain ⟨⟨dx, tp, er, ep⟩, _⟩ := id a8.sa
  refine ⟨_, rfl, s.r, dx, _, rfl, er, look_no (by decide +kernel), s, rfl, a8.sa, a8.iv.sok, a8.tk, fun G g => ?_⟩
  have ok1 : ∀ r ∈ chg s.L s.S, okS r.1 ∧ okS r.2 := chg_ok a8.iv.sok.fl.ok a8.iv.sok.fs.ok
  have ok2 : ∀ r ∈ lyingOf s, okS r.1 ∧ okS r.2 := fun r hr => chg_ok a8.iv.sok.fs.ok a8.iv.sok.fw.ok r (List.mem_filter.mp hr).1
  have plp : ∀ {rs : List (Str × Str)}, (∀ r ∈ rs, okS r.1 ∧ okS r.2) → Pl 3 (.list (rs.map pairD)) = true := fun {rs} h => by
    show (rs.map pairD).all (Pl 2) = true
    rw [List.all_eq_true]
    intro x hx
    obtain ⟨r, hr, rfl⟩ := List.mem_map.mp hx
    show ([.str r.1, .str r.2] : List PyData).all (Pl 1) = true
    rw [List.all_cons, List.all_cons, List.all_nil, Bool.and_true, Bool.and_eq_true]
    exact h r hr
  have cmp : ∀ {rs : List (Str × Str)}, (∀ r ∈ rs, okS r.1 ∧ okS r.2) → PyData.eqv (.list (rs.map pairD)) (.list []) = decide (rs = []) := fun {rs} h => by
    rw [Bool.eq_iff_iff, decide_eq_true_iff, pl_eqv 3 _ _ (plp h) rfl, PyData.list.injEq, List.map_eq_nil_iff]
  refine ⟨_, rfl, du, _, _, .ref x1, rfl, rfl, SqT.of (g.t _ _ ed), rfl, by show 0 ≤ sizeLine; decide, fun q1 hq1 => ?_⟩
  have w1 : Go T G (upd G q1 (.lst [])) := go_upd g.2 hq1
  have c1 : upd G q1 (.lst []) q1 = some (.lst []) := upd_same
  generalize upd G q1 (.lst []) = G1 at w1 c1 ⊢
  have g1 := g.trans w1
  refine ⟨_, _, .lst (SqL.of (g1.at e1)) (dp_pairs (al1.imp fun _ _ h => PairAt.ext h g1.t)), .lst (SqL.of c1) .nil, pl_shaped (plp ok1) (by decide), by decide +kernel, _, rfl, ?_⟩
  rw [cmp ok1]
  unfold cleanB
  by_cases z : chg s.L s.S = []
  · rw [decide_eq_true z]
    refine iteT ⟨_, rfl, du, _, _, .ref x2, rfl, rfl, SqT.of (g1.t _ _ ed), rfl, by show 0 ≤ sizeLine; decide, fun q2 hq2 => ?_⟩
    have w2 : Go T G1 (upd G1 q2 (.lst [])) := go_upd g1.2 hq2
    have c2 : upd G1 q2 (.lst []) q2 = some (.lst []) := upd_same
    generalize upd G1 q2 (.lst []) = G2 at w2 c2 ⊢
    have g2 := g1.trans w2
    refine ⟨_, _, .lst (SqL.of (g2.at e2)) (dp_pairs (al2.imp fun _ _ h => PairAt.ext h g2.t)), .lst (SqL.of c2) .nil, pl_shaped (plp ok2) (by decide), by decide +kernel, ?_⟩
    rw [cmp ok2]
    refine ⟨rfl, _, rfl, ?_⟩
    rw [Bool.true_and]
    exact iteF' (by simp) (k1 G2 g2)
  · rw [decide_eq_false z]
    refine iteF ⟨rfl, _, rfl, ?_⟩
    rw [Bool.false_and]
    exact iteF' (by decide) (k1 G1 g1)
/-- path = .. -/
theorem st9 (m : Ms P w K mg base T C CP CG CS M) (l : La P w K mg base T CS N) (hr : Room 27 (A0.deeper (envOfC "law" (defScope sLaw) s0.heap.objs.size f cdv))) :
    ∃ t, PS (lawCx P w K mg base f cdv A0 outer s0 H0 E) (lawB.getD 9 noS) t ∧ ∀ (D : Ends) (a d ow r : Addr) (v2 v3 v6 v7 v8 v9 v10 v11 : Option V) (H : Hp), TOk T H → DiceAt H d →
      (∀ G p, GoE T [d] H G → p ∈ P4 → D.nx (σW a d v2 (some (.str p)) r ow v6 v7 v8 v9 v10 v11) G) →
      t D (σW a d v2 v3 r ow v6 v7 v8 v9 v10 v11) H := by
  have hu := hu_of hr
  refine ⟨_, ps_set (i := 3) scLaw.nd rfl (Or.inl rfl) (pe_ix (ix_listK K rfl) (pe_lst (pa_cons pe_str (pa_cons pe_str (pa_cons pe_str (pa_cons pe_str pa_nil))))) (pe_call l.GR (hr.mono (by decide)) rfl l.mR l.kR l.bR .nil pass0 (pa_cons (pv 1) (pa_cons pe_int pa_nil))) (fun _ _ => rfl)), fun D a d ow r v2 v3 v6 v7 v8 v9 v10 v11 H tk dk k1 => ?_⟩
  refine ⟨by show 4 ≤ sizeLine; decide, fun l4 hl4 => ?_⟩
  have w1 : Go T H (upd H l4 (.lst (P4.map V.str))) := go_upd tk hl4
  have e1 : upd H l4 (.lst (P4.map V.str)) l4 = some (.lst (P4.map V.str)) := upd_same
  have nld : l4 ≠ d := fun z => by
    obtain ⟨xs, e, _⟩ := dk
    rw [← z, hl4] at e
    cases e
  have dk1 := dk.go w1
  refine ⟨_, rfl, d, 4, rfl, by decide, by decide, dk1, fun r1 x1 lo hi dv => ?_⟩
  obtain ⟨g2, dk2⟩ := roll_go (S := [d]) (Go.any w1) (by simp) dk1 dv
  obtain ⟨p, hp, ap⟩ := at_strs (L := P4) lo hi
  exact ⟨l4, _, r1, .str p, rfl, rfl, SqL.of (by rw [upd_ne nld]; exact e1), ap, k1 _ p g2 hp⟩
/-- if in_way(..) != _law_way(..): .. -/
theorem st10 (l : La P w K mg base T CS N) (l2 : Lw P w K mg base T C N2) (hr : Room 27 (A0.deeper (envOfC "law" (defScope sLaw) s0.heap.objs.size f cdv))) :
    ∃ t, PS (lawCx P w K mg base f cdv A0 outer s0 H0 E) (lawB.getD 10 noS) t ∧ ∀ (D : Ends) (a d ow la st wk : Addr) (s : Sta) (p : Str) (v2 v6 v7 v8 v9 v10 v11 : Option V) (H : Hp), D8 C T H s ow la st wk → p ∈ P4 →
      (∀ G, Go T H G → D.nx (σW a d v2 (some (.str p)) s.r ow v6 v7 v8 v9 v10 v11) G) →
      t D (σW a d v2 (some (.str p)) s.r ow v6 v7 v8 v9 v10 v11) H := by
  have hu := hu_of hr
  refine ⟨_, ps_if (pt_cmpR op_ne (pe_call l2.GY (hr.mono (by decide)) rfl l2.mY l2.kY l2.bY .nil pass0 (pa_cons (pe_dget hu (pv 5) pe_str (fun _ _ => rfl)) (pa_cons (pv 3) pa_nil))) (pe_call l.GW (hr.mono (by decide)) rfl l.mW l.kW l.bW .nil pass0 (pa_cons (pe_dget hu (pv 5) pe_str (fun _ _ => rfl)) (pa_cons (pv 3) pa_nil))) (nomark _)) (pss_one (ps_ret pe_bl)) pss_nil, fun D a d ow la st wk s p v2 v6 v7 v8 v9 v10 v11 H a8 hp k1 => ?_⟩
  have gw : DGet H ow (.str "work") (some (.ref wk)) := DGet.k (k := Sum.inr "work") a8.od.e
  have pl := lok100 (p4_ok p hp)
  refine ⟨_, rfl, ow, _, rfl, gw, _, rfl, wk, p, s.W, rfl, a8.od.ek, a8.iv.tw.fok.sm, pl, a8.tk, fun G g => ?_⟩
  have a9 := a8.go g
  have gw2 : DGet G ow (.str "work") (some (.ref wk)) := DGet.k (k := Sum.inr "work") a9.od.e
  refine ⟨_, rfl, ow, _, rfl, gw2, _, rfl, wk, p, s.W, rfl, .inl a9.od.ek, a9.iv.tw.fok.str, pl, a9.tk, fun G2 g2 => ⟨rfl, _, rfl, iteF' (by simp) (k1 G2 (g.trans g2))⟩⟩
theorem ok_law {fd : FuncData} (F : Fun K "law" "law" sLaw f fd) (m : Ms P w K mg base T C CP CG CS M) (l : La P w K mg base T CS N) (l2 : Lw P w K mg base T C N2) : FnOk P w K mg base CX0 28 f fd ["script"] (spLaw K T) := by
  refine F.ok scLaw (fun vs H Q E h => ?_) (fun cdv A outer s H vs Q E hr h => ?_)
  · obtain ⟨a, xs, rfl, _⟩ := h
    rfl
  · obtain ⟨a, xs, rfl, hx, hi, tk, k1⟩ := h
    obtain ⟨t0, p0, q0⟩ := st0 (f := f) (cdv := cdv) (A0 := A) (outer := outer) (s0 := s) (H0 := H) (E := E) m l hr
    obtain ⟨t1, p1, q1⟩ := st1 (f := f) (cdv := cdv) (A0 := A) (outer := outer) (s0 := s) (H0 := H) (E := E) m hr
    obtain ⟨t2, p2, q2⟩ := st2 (f := f) (cdv := cdv) (A0 := A) (outer := outer) (s0 := s) (H0 := H) (E := E) m hr
    obtain ⟨t3, p3, q3⟩ := st3 (f := f) (cdv := cdv) (A0 := A) (outer := outer) (s0 := s) (H0 := H) (E := E) m l l2 hr
    obtain ⟨t4, p4, q4⟩ := st4 (f := f) (cdv := cdv) (A0 := A) (outer := outer) (s0 := s) (H0 := H) (E := E) l2 hr
    obtain ⟨t5, p5, q5⟩ := st5 (f := f) (cdv := cdv) (A0 := A) (outer := outer) (s0 := s) (H0 := H) (E := E) m l l2 hr
    obtain ⟨t8, p8, q8⟩ := st8 (f := f) (cdv := cdv) (A0 := A) (outer := outer) (s0 := s) (H0 := H) (E := E) m hr
    obtain ⟨t9, p9, q9⟩ := st9 (f := f) (cdv := cdv) (A0 := A) (outer := outer) (s0 := s) (H0 := H) (E := E) m l hr
    obtain ⟨t10, p10, q10⟩ := st10 (f := f) (cdv := cdv) (A0 := A) (outer := outer) (s0 := s) (H0 := H) (E := E) l l2 hr
    obtain ⟨t6, p6, q6⟩ := st67 (f := f) (cdv := cdv) (A0 := A) (outer := outer) (s0 := s) (H0 := H) (E := E) m hr (pss_cons p8 (pss_cons p9 (pss_one p10)))
    refine ⟨_, pss_cons (ps_for PassesOwn.never rfl (pi_list (pe_call l2.GR (hr.mono (by decide)) rfl l2.mR l2.kR l2.bR .nil pass0 (pa_cons (pv 0) (pa_cons pe_int pa_nil)))) (pg_name (i := 1) scLaw.nd rfl (Or.inr rfl))
        (pss_cons p0 (pss_cons p1 (pss_cons p2 (pss_cons p3 (pss_cons p4 (pss_cons p5 p6)))))))
      (pss_one (ps_ret (pe_call0 l2.GP hr rfl l2.mP l2.kP l2.bP .nil pass0))), ?_⟩
    refine ⟨_, rfl, a, xs, rfl, hx, hi, tk, fun G0 ll d g0 el dk nl => ⟨ll, rfl, ⟨_, SqL.of el⟩, for_list (xs := [.ref d]) (fun i σ G => TOk T G ∧ G ll = some (.lst [.ref d]) ∧ (i = 0 → G = G0 ∧ σ = [some (.ref a)] ++ List.replicate 11 none)) ?_ ?_ ?_ ?_⟩⟩
    · exact ⟨g0.2, el, fun _ => ⟨rfl, rfl⟩⟩
    · intro i σ G _ h
      exact SqL.of h.2.1
    · intro i x σ G hix h
      obtain ⟨tG, eG, hs⟩ := h
      cases i with
      | succ i => cases hix
      | zero =>
        cases hix
        obtain ⟨rfl, rfl⟩ := hs rfl
        refine q0 _ a d G g0.2 dk fun G1 fi A1 h1 dk1 ef1 fr1 sub => ?_
        obtain ⟨tA, wA⟩ := f3_tok sub
        have el1 := h1.at el (by simpa using nl)
        refine q1 _ a d fi A1 G1 h1.2 ef1 tA wA fun G2 r ow d1 d2 d3 h2 m2 fr => ?_
        have dk2 := dk1.go h2
        have el2 := h2.at el1
        have offs : ∀ {b : Addr} {o : HO}, G1 b = some o → (∀ ps, o ≠ .tbl ps) → b ∉ Sta.ad ⟨r, d1, d2, d3, A1, A1, A1, []⟩ := fun {b o} e n z => by
          have : b ∈ [r, d1, d2, d3, ow] := by
            simp only [Sta.ad, List.mem_cons, List.not_mem_nil, or_false] at z
            simp only [List.mem_cons, List.not_mem_nil, or_false]
            rcases z with z | z | z | z <;> simp [z]
          obtain ⟨ps, q⟩ := fr b this o e
          exact n ps q
        have ndd : d ∉ Sta.ad ⟨r, d1, d2, d3, A1, A1, A1, []⟩ := by
          obtain ⟨xs, e, _⟩ := dk1
          exact offs e (by intro _ z; cases z)
        have nll : ll ∉ Sta.ad ⟨r, d1, d2, d3, A1, A1, A1, []⟩ := offs el1 (by intro _ z; cases z)
        refine q2 _ a d fi r ow d1 d2 d3 A1 G2 m2 tA wA fun G3 st3 a3 => ?_
        obtain ⟨ys, ed2, dv⟩ := id dk2
        have dk3 : DiceAt G3 d := ⟨ys, (st3.1 d _ ed2 (by intro _ z; cases z) ndd).1, dv⟩
        have el3 := (st3.1 ll _ el2 (by intro _ z; cases z) nll).1
        refine q3 _ a d ow fi fi fi ll ⟨r, d1, d2, d3, A1, A1, A1, PATS⟩ _ G3 a3 dk3 (st3.1 d _ ed2 (by intro _ z; cases z) ndd).2 el3 (st3.1 ll _ el2 (by intro _ z; cases z) nll).2 fun G4 s4 la st wk w2 w6 a4 er4 dk4 nd4 el4 => ?_
        rw [← er4]
        refine q4 _ a d ow la st wk s4 w2 w6 G4 a4 fun G5 ly xs5 h5 ely aly => ?_
        have a5 := a4.go h5
        refine q5 _ a d ow la st wk ly s4 w2 w6 xs5 G5 a5 ely aly fun G6 du x1 x2 x3 y1 y2 h6 edu e1 al1 e2 al2 e3 => ?_
        have a6 := a5.go h6
        refine q6 _ a d ow la st wk ly du x1 x2 x3 y1 y2 s4 w2 w6 G6 a6 edu e1 al1 e2 al2 e3 fun G7 v11 h7 => ?_
        have a7 := a6.go h7
        refine q8 _ a d ow la st wk ly du x1 x2 x3 y1 y2 s4 w2 w6 v11 G7 a7 (h7.t _ _ edu) (h7.at e1) (al1.imp fun _ _ h => PairAt.ext h h7.t) (h7.at e2) (al2.imp fun _ _ h => PairAt.ext h h7.t) fun G8 h8 => ?_
        have h48 := ((h5.trans h6).trans h7).trans h8
        have a8 := a7.go h8
        have dk8 := dk4.go h48
        have el8 := h48.at el4
        refine q9 _ a d ow s4.r w2 none w6 _ _ none none v11 G8 a8.tk dk8 fun G9 p h9 hp => ?_
        have a9 := a8.goe dk8 nd4 h9
        have nld : ll ≠ d := nl
        have el9 := h9.at el8 (by simpa using nld)
        refine q10 _ a d ow la st wk s4 p w2 w6 _ _ none none v11 G9 a9 hp fun G10 h10 => ?_
        exact ⟨h10.2, h10.at el9, fun z => by cases z⟩
    · intro σ G h
      exact ⟨rfl, h.1, fun G' _ => k1 G'⟩
end
end Sg
end Text_S46
section Text_S47
set_option Elab.async false
set_option linter.all false
set_option maxRecDepth 100000
set_option maxHeartbeats 4000000
namespace Sg
open PySem PySem.Spec PyProof.Rows L2 Gx GxR LamY LamZ
/-! ### what the top has written, by names -/
def e0 : He.DefD := ⟨("check_path", none), "check_path", "check_path", defArgs sPath, defBody sPath, defScope sPath, [], []⟩
def e1 : He.DefD := ⟨("check_files", none), "check_files", "check_files", defArgs sFiles, defBody sFiles, defScope sFiles, [], []⟩
def e2 : He.DefD := ⟨("changes", none), "changes", "changes", defArgs sChanges, defBody sChanges, defScope sChanges, [], []⟩
def e3 : He.DefD := ⟨("fits", none), "fits", "fits", defArgs sFits, defBody sFits, defScope sFits, [], []⟩
def e4 : He.DefD := ⟨("left_out", none), "left_out", "left_out", defArgs sLeft, defBody sLeft, defScope sLeft, [], []⟩
def e5 : He.DefD := ⟨("Stage", some "__init__"), "__init__", "Stage.__init__", defArgs sInit, defBody sInit, defScope sInit, [], []⟩
def e6 : He.DefD := ⟨("Stage", some "leave_out"), "leave_out", "Stage.leave_out", defArgs sLeave, defBody sLeave, defScope sLeave, [], []⟩
def e7 : He.DefD := ⟨("Stage", some "write"), "write", "Stage.write", defArgs sWrite, defBody sWrite, defScope sWrite, [], []⟩
def e8 : He.DefD := ⟨("Stage", some "erase"), "erase", "Stage.erase", defArgs sErase, defBody sErase, defScope sErase, [], []⟩
def e9 : He.DefD := ⟨("Stage", some "add"), "add", "Stage.add", defArgs sAdd, defBody sAdd, defScope sAdd, [], []⟩
def e10 : He.DefD := ⟨("Stage", some "add_all"), "add_all", "Stage.add_all", defArgs sAll, defBody sAll, defScope sAll, [], []⟩
def e11 : He.DefD := ⟨("Stage", some "reset"), "reset", "Stage.reset", defArgs sReset, defBody sReset, defScope sReset, [], []⟩
def e12 : He.DefD := ⟨("Stage", some "restore"), "restore", "Stage.restore", defArgs sRestore, defBody sRestore, defScope sRestore, [], []⟩
def e13 : He.DefD := ⟨("Stage", some "status"), "status", "Stage.status", defArgs sStatus, defBody sStatus, defScope sStatus, [], []⟩
def e14 : He.DefD := ⟨("Stage", some "is_clean"), "is_clean", "Stage.is_clean", defArgs sClean, defBody sClean, defScope sClean, [], []⟩
def e15 : He.DefD := ⟨("Stage", some "keep"), "keep", "Stage.keep", defArgs sKeep, defBody sKeep, defScope sKeep, [], []⟩
def e16 : He.DefD := ⟨("Stage", some "move_to"), "move_to", "Stage.move_to", defArgs sMoveTo, defBody sMoveTo, defScope sMoveTo, [], []⟩
def e17 : He.DefD := ⟨("Stage", some "move_file"), "move_file", "Stage.move_file", defArgs sMove, defBody sMove, defScope sMove, [], []⟩
def e18 : He.DefD := ⟨("in_way", none), "in_way", "in_way", defArgs sWay, defBody sWay, defScope sWay, [], []⟩
def e19 : He.DefD := ⟨("_law_dice", none), "_law_dice", "_law_dice", defArgs sDice, defBody sDice, defScope sDice, [], []⟩
def e20 : He.DefD := ⟨("_law_roll", none), "_law_roll", "_law_roll", defArgs sRoll, defBody sRoll, defScope sRoll, [], []⟩
def e21 : He.DefD := ⟨("_law_rounds", none), "_law_rounds", "_law_rounds", defArgs sRounds, defBody sRounds, defScope sRounds, [], []⟩
def e22 : He.DefD := ⟨("_law_told", none), "_law_told", "_law_told", defArgs sTold, defBody sTold, defScope sTold, [], []⟩
def e23 : He.DefD := ⟨("_law_way", none), "_law_way", "_law_way", defArgs sLWay, defBody sLWay, defScope sLWay, [], []⟩
def e24 : He.DefD := ⟨("_law_less", none), "_law_less", "_law_less", defArgs sLess, defBody sLess, defScope sLess, [], []⟩
def e25 : He.DefD := ⟨("_law_more", none), "_law_more", "_law_more", defArgs sMore, defBody sMore, defScope sMore, [], []⟩
def e26 : He.DefD := ⟨("_law_out", none), "_law_out", "_law_out", defArgs sOut, defBody sOut, defScope sOut, [], []⟩
def e27 : He.DefD := ⟨("_law_changes", none), "_law_changes", "_law_changes", defArgs sLChg, defBody sLChg, defScope sLChg, [], []⟩
def e28 : He.DefD := ⟨("_law_deed", none), "_law_deed", "_law_deed", defArgs sDeed, defBody sDeed, defScope sDeed, [], []⟩
def e29 : He.DefD := ⟨("_law_plain", none), "_law_plain", "_law_plain", defArgs sPlain, defBody sPlain, defScope sPlain, [], []⟩
def e30 : He.DefD := ⟨("law", none), "law", "law", defArgs sLaw, defBody sLaw, defScope sLaw, [], []⟩
def fnL : List He.DefD := [e0, e1, e2, e3, e4, e5, e6, e7, e8, e9, e10, e11, e12, e13, e14, e15, e16, e17, e18, e19, e20, e21, e22, e23, e24, e25, e26, e27, e28, e29, e30]
def faL : List He.Fa := [.glo "Stage", .glo "PathError", .glo "StageError", .glo "StoreError", .glo "check_path", .glo "check_files", .glo "changes", .glo "fits", .glo "left_out", .glo "in_way", .glo "_law_dice", .glo "_law_roll", .glo "_law_rounds", .glo "_law_told", .glo "_law_way", .glo "_law_less", .glo "_law_more", .glo "_law_out", .glo "_law_changes", .glo "_law_deed", .glo "_law_plain", .glo "law", .free "any", .free "all", .free "len", .free "sorted", .free "range", .free "abs", .free "int", .free "dict", .free "list", .free "tuple", .free "min", .free "str", .str "END" "\n", .cls "Stage", .noat "Stage" "last", .noat "Stage" "staged", .noat "Stage" "work", .noat "Stage" "patterns", .meth "Stage" "leave_out", .meth "Stage" "write", .meth "Stage" "erase", .meth "Stage" "add", .meth "Stage" "add_all", .meth "Stage" "reset", .meth "Stage" "restore", .meth "Stage" "status", .meth "Stage" "is_clean", .meth "Stage" "keep", .meth "Stage" "move_to", .meth "Stage" "move_file", .mkr "Stage", .exc "PathError", .exc "StageError"]
def tfL : List He.Defn := [("check_files", none), ("fits", none), ("left_out", none), ("Stage", some "leave_out"), ("in_way", none), ("Stage", some "status"), ("check_path", none), ("_law_plain", none), ("_law_deed", none)]
def exL (K : PySem.W.Frag) : Bool := decide (PySem.W.subIn K (.ref (He.ga K "StoreError")) (.type "BaseException") = some true) && (decide (PySem.W.typeIn K (.ref (He.ga K "StoreError")) = some (.type "type")) && (PySem.W.isClsIn K (He.ga K "StoreError") &&
  (decide (PySem.W.subIn K (.ref (He.ga K "PathError")) (.ref (He.ga K "StoreError")) = some true) && (decide (PySem.W.subIn K (.ref (He.ga K "StageError")) (.ref (He.ga K "StoreError")) = some true) && decide ((tfL.map fun p => (He.cT K p).2).Nodup)))))
theorem fun_of {K : PySem.W.Frag} {x q : Str} {st : Stmt} {f : Addr} {fd : FuncData} (F : FunD K x q (defArgs st) (defBody st) (defScope st) [] [] f fd) : Fun K x q st f fd := by
  obtain ⟨oc, od, dV, kV, doc, pm, an, cdv, ct, osl, rfl, lk, hcd, hD, hK⟩ := F.ex
  rcases hD with ⟨_, rfl⟩ | ⟨e, _⟩
  · exact ⟨⟨oc, od, kV, doc, pm, an, cdv, ct, osl, rfl, lk, hcd⟩, F.kp⟩
  · exact absurd rfl e
theorem funC_of {K : PySem.W.Frag} {x q : Str} {st : Stmt} {p : He.Defn} {fd : FuncData} (F : FunD K x q (defArgs st) (defBody st) (defScope st) [] [] (He.fAd K p) fd) : FunC K x q st (He.fAd K p) (He.cT K p).1 fd := by
  obtain ⟨oc, od, dV, kV, doc, pm, an, cdv, ct, osl, rfl, lk, hcd, hD, hK⟩ := F.ex
  rcases hD with ⟨_, rfl⟩ | ⟨e, _⟩
  · obtain ⟨c, rfl⟩ := He.codeIn_ref hcd
    have e : (He.cT K p).1 = c := He.codeOf_eq lk rfl
    rw [e]
    exact ⟨⟨oc, od, kV, doc, pm, an, ct, osl, rfl, lk, hcd⟩, F.kp⟩
  · exact absurd rfl e
theorem tabB {base : Heap} {mg : Str → Option Value} {c P : Addr} (t : LamX.TabB base mg c P) : TabB base mg c P := ⟨t.code, t.bm, t.gP⟩
theorem law_at {l : PySem.W.OpenLaw} {w : World} {K : PySem.W.Frag} {h : Heap} {mg : Str → Option Value} {fa : Addr} (X : K.In h) (G : h.Ns mainGlobals mg) (hfa : mg "law" = some (.ref fa)) (c : He.SaysX faL fnL [] tfL exL w h K) :
    LamX.LawAtS l w K CX0 28 63 "script" mg fa h := by
  have S := c.t.d
  have e := hfa.symm.trans (He.glo_ok X G (S.fact 21 (f := .glo "law") rfl))
  cases e
  obtain ⟨x1, x2⟩ := He.ba c.more
  obtain ⟨x2, x3⟩ := He.ba x2
  obtain ⟨x3, x4⟩ := He.ba x3
  obtain ⟨x4, x5⟩ := He.ba x4
  obtain ⟨x5, x6⟩ := He.ba x5
  have nd : (tfL.map fun p => (He.cT K p).2).Nodup := of_decide_eq_true x6
  obtain ⟨d0, F0⟩ := S.def_ 0 (d := e0) rfl
  have A0 : FunC K "check_path" "check_path" sPath (He.fAd K ("check_path", none)) (He.cT K ("check_path", none)).1 d0 := funC_of F0
  have b0 : Binds K d0 ["path"] [] := Fun.binds A0.fn fun _ _ _ _ _ _ us hl => match us, hl with | [_], _ => rfl
  have m0 : mg "check_path" = some (.ref (He.fAd K ("check_path", none))) := He.glo_ok X G (S.fact 4 (f := .glo "check_path") rfl)
  have k0 := A0.fn.kp
  obtain ⟨d1, F1⟩ := S.def_ 1 (d := e1) rfl
  have A1 : FunC K "check_files" "check_files" sFiles (He.fAd K ("check_files", none)) (He.cT K ("check_files", none)).1 d1 := funC_of F1
  have b1 : Binds K d1 ["files"] [] := Fun.binds A1.fn fun _ _ _ _ _ _ us hl => match us, hl with | [_], _ => rfl
  have m1 : mg "check_files" = some (.ref (He.fAd K ("check_files", none))) := He.glo_ok X G (S.fact 5 (f := .glo "check_files") rfl)
  have k1 := A1.fn.kp
  obtain ⟨d2, F2⟩ := S.def_ 2 (d := e2) rfl
  have A2 : Fun K "changes" "changes" sChanges (He.fAd K ("changes", none)) d2 := fun_of F2
  have b2 : Binds K d2 ["one", "other"] [] := Fun.binds A2 fun _ _ _ _ _ _ us hl => match us, hl with | [_, _], _ => rfl
  have m2 : mg "changes" = some (.ref (He.fAd K ("changes", none))) := He.glo_ok X G (S.fact 6 (f := .glo "changes") rfl)
  have k2 := A2.kp
  obtain ⟨d3, F3⟩ := S.def_ 3 (d := e3) rfl
  have A3 : FunC K "fits" "fits" sFits (He.fAd K ("fits", none)) (He.cT K ("fits", none)).1 d3 := funC_of F3
  have b3 : Binds K d3 ["pattern", "path"] [] := Fun.binds A3.fn fun _ _ _ _ _ _ us hl => match us, hl with | [_, _], _ => rfl
  have m3 : mg "fits" = some (.ref (He.fAd K ("fits", none))) := He.glo_ok X G (S.fact 7 (f := .glo "fits") rfl)
  have k3 := A3.fn.kp
  obtain ⟨d4, F4⟩ := S.def_ 4 (d := e4) rfl
  have A4 : FunC K "left_out" "left_out" sLeft (He.fAd K ("left_out", none)) (He.cT K ("left_out", none)).1 d4 := funC_of F4
  have b4 : Binds K d4 ["patterns", "path"] [] := Fun.binds A4.fn fun _ _ _ _ _ _ us hl => match us, hl with | [_, _], _ => rfl
  have m4 : mg "left_out" = some (.ref (He.fAd K ("left_out", none))) := He.glo_ok X G (S.fact 8 (f := .glo "left_out") rfl)
  have k4 := A4.fn.kp
  obtain ⟨d5, F5⟩ := S.def_ 5 (d := e5) rfl
  have A5 : Fun K "__init__" "Stage.__init__" sInit (He.fAd K ("Stage", some "__init__")) d5 := fun_of F5
  have b5 : Binds K d5 ["self", "files"] [] := Fun.binds A5 fun _ _ _ _ _ _ us hl => match us, hl with | [_, _], _ => rfl
  obtain ⟨d6, F6⟩ := S.def_ 6 (d := e6) rfl
  have A6 : FunC K "leave_out" "Stage.leave_out" sLeave (He.fAd K ("Stage", some "leave_out")) (He.cT K ("Stage", some "leave_out")).1 d6 := funC_of F6
  have b6 : Binds K d6 ["self", "patterns"] [] := Fun.binds A6.fn fun _ _ _ _ _ _ us hl => match us, hl with | [_, _], _ => rfl
  have m6 : Meth K (He.ga K "Stage") "leave_out" (He.fAd K ("Stage", some "leave_out")) := He.meth_ok (S.fact 40 (f := .meth "Stage" "leave_out") rfl)
  obtain ⟨d7, F7⟩ := S.def_ 7 (d := e7) rfl
  have A7 : Fun K "write" "Stage.write" sWrite (He.fAd K ("Stage", some "write")) d7 := fun_of F7
  have b7 : Binds K d7 ["self", "path", "text"] [] := Fun.binds A7 fun _ _ _ _ _ _ us hl => match us, hl with | [_, _, _], _ => rfl
  have m7 : Meth K (He.ga K "Stage") "write" (He.fAd K ("Stage", some "write")) := He.meth_ok (S.fact 41 (f := .meth "Stage" "write") rfl)
  obtain ⟨d8, F8⟩ := S.def_ 8 (d := e8) rfl
  have A8 : Fun K "erase" "Stage.erase" sErase (He.fAd K ("Stage", some "erase")) d8 := fun_of F8
  have b8 : Binds K d8 ["self", "path"] [] := Fun.binds A8 fun _ _ _ _ _ _ us hl => match us, hl with | [_, _], _ => rfl
  have m8 : Meth K (He.ga K "Stage") "erase" (He.fAd K ("Stage", some "erase")) := He.meth_ok (S.fact 42 (f := .meth "Stage" "erase") rfl)
  obtain ⟨d9, F9⟩ := S.def_ 9 (d := e9) rfl
  have A9 : Fun K "add" "Stage.add" sAdd (He.fAd K ("Stage", some "add")) d9 := fun_of F9
  have b9 : Binds K d9 ["self", "path"] [] := Fun.binds A9 fun _ _ _ _ _ _ us hl => match us, hl with | [_, _], _ => rfl
  have m9 : Meth K (He.ga K "Stage") "add" (He.fAd K ("Stage", some "add")) := He.meth_ok (S.fact 43 (f := .meth "Stage" "add") rfl)
  obtain ⟨d10, F10⟩ := S.def_ 10 (d := e10) rfl
  have A10 : Fun K "add_all" "Stage.add_all" sAll (He.fAd K ("Stage", some "add_all")) d10 := fun_of F10
  have b10 : Binds K d10 ["self"] [] := Fun.binds A10 fun _ _ _ _ _ _ us hl => match us, hl with | [_], _ => rfl
  have m10 : Meth K (He.ga K "Stage") "add_all" (He.fAd K ("Stage", some "add_all")) := He.meth_ok (S.fact 44 (f := .meth "Stage" "add_all") rfl)
  obtain ⟨d11, F11⟩ := S.def_ 11 (d := e11) rfl
  have A11 : Fun K "reset" "Stage.reset" sReset (He.fAd K ("Stage", some "reset")) d11 := fun_of F11
  have b11 : Binds K d11 ["self", "path"] [] := Fun.binds A11 fun _ _ _ _ _ _ us hl => match us, hl with | [_, _], _ => rfl
  have m11 : Meth K (He.ga K "Stage") "reset" (He.fAd K ("Stage", some "reset")) := He.meth_ok (S.fact 45 (f := .meth "Stage" "reset") rfl)
  obtain ⟨d12, F12⟩ := S.def_ 12 (d := e12) rfl
  have A12 : Fun K "restore" "Stage.restore" sRestore (He.fAd K ("Stage", some "restore")) d12 := fun_of F12
  have b12 : Binds K d12 ["self", "path"] [] := Fun.binds A12 fun _ _ _ _ _ _ us hl => match us, hl with | [_, _], _ => rfl
  have m12 : Meth K (He.ga K "Stage") "restore" (He.fAd K ("Stage", some "restore")) := He.meth_ok (S.fact 46 (f := .meth "Stage" "restore") rfl)
  obtain ⟨d13, F13⟩ := S.def_ 13 (d := e13) rfl
  have A13 : FunC K "status" "Stage.status" sStatus (He.fAd K ("Stage", some "status")) (He.cT K ("Stage", some "status")).1 d13 := funC_of F13
  have b13 : Binds K d13 ["self"] [] := Fun.binds A13.fn fun _ _ _ _ _ _ us hl => match us, hl with | [_], _ => rfl
  have m13 : Meth K (He.ga K "Stage") "status" (He.fAd K ("Stage", some "status")) := He.meth_ok (S.fact 47 (f := .meth "Stage" "status") rfl)
  obtain ⟨d14, F14⟩ := S.def_ 14 (d := e14) rfl
  have A14 : Fun K "is_clean" "Stage.is_clean" sClean (He.fAd K ("Stage", some "is_clean")) d14 := fun_of F14
  have b14 : Binds K d14 ["self"] [] := Fun.binds A14 fun _ _ _ _ _ _ us hl => match us, hl with | [_], _ => rfl
  have m14 : Meth K (He.ga K "Stage") "is_clean" (He.fAd K ("Stage", some "is_clean")) := He.meth_ok (S.fact 48 (f := .meth "Stage" "is_clean") rfl)
  obtain ⟨d15, F15⟩ := S.def_ 15 (d := e15) rfl
  have A15 : Fun K "keep" "Stage.keep" sKeep (He.fAd K ("Stage", some "keep")) d15 := fun_of F15
  have b15 : Binds K d15 ["self"] [] := Fun.binds A15 fun _ _ _ _ _ _ us hl => match us, hl with | [_], _ => rfl
  have m15 : Meth K (He.ga K "Stage") "keep" (He.fAd K ("Stage", some "keep")) := He.meth_ok (S.fact 49 (f := .meth "Stage" "keep") rfl)
  obtain ⟨d16, F16⟩ := S.def_ 16 (d := e16) rfl
  have A16 : Fun K "move_to" "Stage.move_to" sMoveTo (He.fAd K ("Stage", some "move_to")) d16 := fun_of F16
  have b16 : Binds K d16 ["self", "files"] [] := Fun.binds A16 fun _ _ _ _ _ _ us hl => match us, hl with | [_, _], _ => rfl
  have m16 : Meth K (He.ga K "Stage") "move_to" (He.fAd K ("Stage", some "move_to")) := He.meth_ok (S.fact 50 (f := .meth "Stage" "move_to") rfl)
  obtain ⟨d17, F17⟩ := S.def_ 17 (d := e17) rfl
  have A17 : Fun K "move_file" "Stage.move_file" sMove (He.fAd K ("Stage", some "move_file")) d17 := fun_of F17
  have b17 : Binds K d17 ["self", "path", "other"] [] := Fun.binds A17 fun _ _ _ _ _ _ us hl => match us, hl with | [_, _, _], _ => rfl
  have m17 : Meth K (He.ga K "Stage") "move_file" (He.fAd K ("Stage", some "move_file")) := He.meth_ok (S.fact 51 (f := .meth "Stage" "move_file") rfl)
  obtain ⟨d18, F18⟩ := S.def_ 18 (d := e18) rfl
  have A18 : FunC K "in_way" "in_way" sWay (He.fAd K ("in_way", none)) (He.cT K ("in_way", none)).1 d18 := funC_of F18
  have b18 : Binds K d18 ["files", "path"] [] := Fun.binds A18.fn fun _ _ _ _ _ _ us hl => match us, hl with | [_, _], _ => rfl
  have m18 : mg "in_way" = some (.ref (He.fAd K ("in_way", none))) := He.glo_ok X G (S.fact 9 (f := .glo "in_way") rfl)
  have k18 := A18.fn.kp
  obtain ⟨d19, F19⟩ := S.def_ 19 (d := e19) rfl
  have A19 : Fun K "_law_dice" "_law_dice" sDice (He.fAd K ("_law_dice", none)) d19 := fun_of F19
  have b19 : Binds K d19 ["cell"] [] := Fun.binds A19 fun _ _ _ _ _ _ us hl => match us, hl with | [_], _ => rfl
  have m19 : mg "_law_dice" = some (.ref (He.fAd K ("_law_dice", none))) := He.glo_ok X G (S.fact 10 (f := .glo "_law_dice") rfl)
  have k19 := A19.kp
  obtain ⟨d20, F20⟩ := S.def_ 20 (d := e20) rfl
  have A20 : Fun K "_law_roll" "_law_roll" sRoll (He.fAd K ("_law_roll", none)) d20 := fun_of F20
  have b20 : Binds K d20 ["dice", "many"] [] := Fun.binds A20 fun _ _ _ _ _ _ us hl => match us, hl with | [_, _], _ => rfl
  have m20 : mg "_law_roll" = some (.ref (He.fAd K ("_law_roll", none))) := He.glo_ok X G (S.fact 11 (f := .glo "_law_roll") rfl)
  have k20 := A20.kp
  obtain ⟨d21, F21⟩ := S.def_ 21 (d := e21) rfl
  have A21 : Fun K "_law_rounds" "_law_rounds" sRounds (He.fAd K ("_law_rounds", none)) d21 := fun_of F21
  have b21 : Binds K d21 ["script", "most"] [] := Fun.binds A21 fun _ _ _ _ _ _ us hl => match us, hl with | [_, _], _ => rfl
  have m21 : mg "_law_rounds" = some (.ref (He.fAd K ("_law_rounds", none))) := He.glo_ok X G (S.fact 12 (f := .glo "_law_rounds") rfl)
  have k21 := A21.kp
  obtain ⟨d22, F22⟩ := S.def_ 22 (d := e22) rfl
  have A22 : Fun K "_law_told" "_law_told" sTold (He.fAd K ("_law_told", none)) d22 := fun_of F22
  have b22 : Binds K d22 ["what"] [] := Fun.binds A22 fun _ _ _ _ _ _ us hl => match us, hl with | [_], _ => rfl
  have m22 : mg "_law_told" = some (.ref (He.fAd K ("_law_told", none))) := He.glo_ok X G (S.fact 13 (f := .glo "_law_told") rfl)
  have k22 := A22.kp
  obtain ⟨d23, F23⟩ := S.def_ 23 (d := e23) rfl
  have A23 : Fun K "_law_way" "_law_way" sLWay (He.fAd K ("_law_way", none)) d23 := fun_of F23
  have b23 : Binds K d23 ["files", "path"] [] := Fun.binds A23 fun _ _ _ _ _ _ us hl => match us, hl with | [_, _], _ => rfl
  have m23 : mg "_law_way" = some (.ref (He.fAd K ("_law_way", none))) := He.glo_ok X G (S.fact 14 (f := .glo "_law_way") rfl)
  have k23 := A23.kp
  obtain ⟨d24, F24⟩ := S.def_ 24 (d := e24) rfl
  have A24 : Fun K "_law_less" "_law_less" sLess (He.fAd K ("_law_less", none)) d24 := fun_of F24
  have b24 : Binds K d24 ["files", "path"] [] := Fun.binds A24 fun _ _ _ _ _ _ us hl => match us, hl with | [_, _], _ => rfl
  have m24 : mg "_law_less" = some (.ref (He.fAd K ("_law_less", none))) := He.glo_ok X G (S.fact 15 (f := .glo "_law_less") rfl)
  have k24 := A24.kp
  obtain ⟨d25, F25⟩ := S.def_ 25 (d := e25) rfl
  have A25 : Fun K "_law_more" "_law_more" sMore (He.fAd K ("_law_more", none)) d25 := fun_of F25
  have b25 : Binds K d25 ["files", "path", "text"] [] := Fun.binds A25 fun _ _ _ _ _ _ us hl => match us, hl with | [_, _, _], _ => rfl
  have m25 : mg "_law_more" = some (.ref (He.fAd K ("_law_more", none))) := He.glo_ok X G (S.fact 16 (f := .glo "_law_more") rfl)
  have k25 := A25.kp
  obtain ⟨d26, F26⟩ := S.def_ 26 (d := e26) rfl
  have A26 : Fun K "_law_out" "_law_out" sOut (He.fAd K ("_law_out", none)) d26 := fun_of F26
  have b26 : Binds K d26 ["path"] [] := Fun.binds A26 fun _ _ _ _ _ _ us hl => match us, hl with | [_], _ => rfl
  have m26 : mg "_law_out" = some (.ref (He.fAd K ("_law_out", none))) := He.glo_ok X G (S.fact 17 (f := .glo "_law_out") rfl)
  have k26 := A26.kp
  obtain ⟨d27, F27⟩ := S.def_ 27 (d := e27) rfl
  have A27 : Fun K "_law_changes" "_law_changes" sLChg (He.fAd K ("_law_changes", none)) d27 := fun_of F27
  have b27 : Binds K d27 ["one", "other"] [] := Fun.binds A27 fun _ _ _ _ _ _ us hl => match us, hl with | [_, _], _ => rfl
  have m27 : mg "_law_changes" = some (.ref (He.fAd K ("_law_changes", none))) := He.glo_ok X G (S.fact 18 (f := .glo "_law_changes") rfl)
  have k27 := A27.kp
  obtain ⟨d28, F28⟩ := S.def_ 28 (d := e28) rfl
  have A28 : FunC K "_law_deed" "_law_deed" sDeed (He.fAd K ("_law_deed", none)) (He.cT K ("_law_deed", none)).1 d28 := funC_of F28
  have b28 : Binds K d28 ["dice", "stage", "own"] [] := Fun.binds A28.fn fun _ _ _ _ _ _ us hl => match us, hl with | [_, _, _], _ => rfl
  have m28 : mg "_law_deed" = some (.ref (He.fAd K ("_law_deed", none))) := He.glo_ok X G (S.fact 19 (f := .glo "_law_deed") rfl)
  have k28 := A28.fn.kp
  obtain ⟨d29, F29⟩ := S.def_ 29 (d := e29) rfl
  have A29 : FunC K "_law_plain" "_law_plain" sPlain (He.fAd K ("_law_plain", none)) (He.cT K ("_law_plain", none)).1 d29 := funC_of F29
  have b29 : Binds K d29 [] [] := Fun.binds A29.fn fun _ _ _ _ _ _ us hl => match us, hl with | [], _ => rfl
  have m29 : mg "_law_plain" = some (.ref (He.fAd K ("_law_plain", none))) := He.glo_ok X G (S.fact 20 (f := .glo "_law_plain") rfl)
  have k29 := A29.fn.kp
  obtain ⟨d30, F30⟩ := S.def_ 30 (d := e30) rfl
  have A30 : Fun K "law" "law" sLaw (He.fAd K ("law", none)) d30 := fun_of F30
  have b30 : Binds K d30 ["script"] [] := Fun.binds A30 fun _ _ _ _ _ _ us hl => match us, hl with | [_], _ => rfl
  have m30 : mg "law" = some (.ref (He.fAd K ("law", none))) := He.glo_ok X G (S.fact 21 (f := .glo "law") rfl)
  have k30 := A30.kp
  have Y : Tx K mg := ⟨He.free_ok X G (S.fact 22 (f := .free "any") rfl), He.free_ok X G (S.fact 23 (f := .free "all") rfl), He.free_ok X G (S.fact 24 (f := .free "len") rfl), He.free_ok X G (S.fact 25 (f := .free "sorted") rfl), He.free_ok X G (S.fact 26 (f := .free "range") rfl), He.free_ok X G (S.fact 27 (f := .free "abs") rfl), He.free_ok X G (S.fact 28 (f := .free "int") rfl), He.free_ok X G (S.fact 29 (f := .free "dict") rfl), He.free_ok X G (S.fact 30 (f := .free "list") rfl), He.free_ok X G (S.fact 31 (f := .free "tuple") rfl), He.free_ok X G (S.fact 32 (f := .free "min") rfl), He.free_ok X G (S.fact 33 (f := .free "str") rfl), He.str_ok X G (S.fact 34 (f := .str "END" "\n") rfl)⟩
  obtain ⟨q1, q2, q3, q4⟩ := He.exc_ok (S.fact 53 (f := .exc "PathError") rfl)
  obtain ⟨r1, r2, r3, r4⟩ := He.exc_ok (S.fact 54 (f := .exc "StageError") rfl)
  have Xr : Er K mg (He.ga K "PathError") (He.ga K "StageError") (He.ga K "StoreError") := ⟨⟨He.glo_ok X G (S.fact 1 (f := .glo "PathError") rfl), q1, q2, q3, q4, of_decide_eq_true x4⟩, ⟨He.glo_ok X G (S.fact 2 (f := .glo "StageError") rfl), r1, r2, r3, r4, of_decide_eq_true x5⟩, He.glo_ok X G (S.fact 3 (f := .glo "StoreError") rfl), of_decide_eq_true x1, of_decide_eq_true x2, x3⟩
  have L : Cl K mg (He.ga K "Stage") := ⟨He.cls_ok (S.fact 35 (f := .cls "Stage") rfl), He.noat_ok (S.fact 36 (f := .noat "Stage" "last") rfl), He.noat_ok (S.fact 37 (f := .noat "Stage" "staged") rfl), He.noat_ok (S.fact 38 (f := .noat "Stage" "work") rfl), He.noat_ok (S.fact 39 (f := .noat "Stage" "patterns") rfl), He.glo_ok X G (S.fact 0 (f := .glo "Stage") rfl)⟩
  have mm : Mk K (He.ga K "Stage") (He.fAd K ("Stage", some "__init__")) := He.mkr_ok (S.fact 52 (f := .mkr "Stage") rfl)
  let T : Tb := ⟨(He.cT K ("check_files", none)).2, (He.cT K ("fits", none)).2, (He.cT K ("left_out", none)).2, (He.cT K ("Stage", some "leave_out")).2, (He.cT K ("in_way", none)).2, (He.cT K ("Stage", some "status")).2, (He.cT K ("check_path", none)).2, (He.cT K ("_law_plain", none)).2, (He.cT K ("_law_deed", none)).2⟩
  have nd2 : [T.cf, T.f, T.lo, T.le, T.iw, T.st, T.w, T.p, T.m].Nodup := nd
  refine ⟨d30, tfL.map (He.cT K), spLaw K T, fun q hq => ?_, fun q hq => ?_, fun q hq => ?_, ?_, ?_, ?_⟩
  · obtain ⟨p, hp, rfl⟩ := List.mem_map.mp hq
    exact c.empty p hp
  · obtain ⟨p, hp, rfl⟩ := List.mem_map.mp hq
    exact c.out p hp
  · obtain ⟨p, hp, rfl⟩ := List.mem_map.mp hq
    exact PySem.W.codeHd_of_K X (c.hd p hp)
  · intro s u
    exact FunD.bindsA (ps := ["script"]) F30 (fun _ _ _ _ _ _ us hl => match us, hl with | [_], _ => rfl) s [u] rfl
  · intro H a ns _ _ hT hS
    have g : ∀ p ∈ tfL, H (He.cT K p).2 = some (.tbl #[]) := fun p hp => hT (He.cT K p) (List.mem_map.mpr ⟨p, hp, rfl⟩)
    refine ⟨a, _, rfl, hS, fun x hx => ?_, ⟨⟨#[], g _ (by simp [tfL]), True.intro⟩, ⟨#[], g _ (by simp [tfL]), True.intro⟩, ⟨#[], g _ (by simp [tfL]), True.intro⟩, ⟨#[], g _ (by simp [tfL]), True.intro⟩, ⟨#[], g _ (by simp [tfL]), True.intro⟩, ⟨#[], g _ (by simp [tfL]), True.intro⟩, TabN.nil (g _ (by simp [tfL])), LamX.TabS.nil (g _ (by simp [tfL])), LamX.TabS.nil (g _ (by simp [tfL])), ?_, ?_, ?_⟩, fun _ => rfl⟩
    · obtain ⟨n, _, rfl⟩ := List.mem_map.mp hx
      exact ⟨n, rfl⟩
    all_goals
      simp only [List.nodup_cons, List.mem_cons, List.not_mem_nil, or_false, not_or, List.nodup_nil, and_true] at nd2 ⊢
      obtain ⟨⟨n1, n2, n3, n4, n5, n6, n7, n8⟩, ⟨n9, n10, n11, n12, n13, n14, n15⟩, ⟨n16, n17, n18, n19, n20, n21⟩, ⟨n22, n23, n24, n25, n26⟩, ⟨n27, n28, n29, n30⟩, ⟨n31, n32, n33⟩, ⟨n34, n35⟩, n36, _⟩ := nd2
      refine ⟨?_, ?_, ?_, ?_, ?_, ?_, ?_, ?_⟩
      all_goals first | assumption | exact Ne.symm (by assumption)
  · intro base _ _ hB
    have g : ∀ p ∈ tfL, LamX.TabB base mg (He.cT K p).1 (He.cT K p).2 := fun p hp => hB (He.cT K p) (List.mem_map.mpr ⟨p, hp, rfl⟩)
    have tcf : LamX.TabB base mg (He.cT K ("check_files", none)).1 T.cf := g _ (by simp [tfL])
    have tf : LamX.TabB base mg (He.cT K ("fits", none)).1 T.f := g _ (by simp [tfL])
    have tlo : LamX.TabB base mg (He.cT K ("left_out", none)).1 T.lo := g _ (by simp [tfL])
    have tle : LamX.TabB base mg (He.cT K ("Stage", some "leave_out")).1 T.le := g _ (by simp [tfL])
    have tiw : LamX.TabB base mg (He.cT K ("in_way", none)).1 T.iw := g _ (by simp [tfL])
    have tst : LamX.TabB base mg (He.cT K ("Stage", some "status")).1 T.st := g _ (by simp [tfL])
    have tw : LamX.TabB base mg (He.cT K ("check_path", none)).1 T.w := g _ (by simp [tfL])
    have tp : LamX.TabB base mg (He.cT K ("_law_plain", none)).1 T.p := g _ (by simp [tfL])
    have tm : LamX.TabB base mg (He.cT K ("_law_deed", none)).1 T.m := g _ (by simp [tfL])
    have G0 := ok_path (P := l.prog) (w := w) A0 Xr Y (tabB tw)
    have G1 := ok_files (P := l.prog) (w := w) A1 Xr Y (tabB tcf) G0 m0 k0 b0
    have G2 := ok_chg (P := l.prog) (w := w) (base := base) (T := T) A2 Y
    have G3 := ok_fits (P := l.prog) (w := w) A3 Y (tabB tf) m3 b3 8
    have G4 := ok_left A4 Y (tabB tlo) G3 m3 k3 b3
    have G5 := ok_init A5 L Y G1 m1 k1 b1
    have G6 := ok_leave (P := l.prog) (w := w) A6 L Xr Y (tabB tle)
    have G7 := ok_write A7 L Y G1 m1 k1 b1
    have G8 := ok_erase (P := l.prog) (w := w) (base := base) (T := T) A8 L Xr
    have G18 := ok_way (P := l.prog) (w := w) A18 Y (tabB tiw)
    have G9 := ok_add A9 L Xr G18 m18 k18 b18 G4 m4 k4 b4
    have G10 := ok_all A10 L Y G9 m9 b9 G4 m4 k4 b4
    have G11 := ok_reset A11 L Xr G18 m18 k18 b18
    have G12 := ok_restore A12 L Xr G18 m18 k18 b18
    have G13 := ok_status A13 L Y (tabB tst) G2 m2 k2 b2 G4 m4 k4 b4
    have G14 := ok_clean A14 L G13 m13 b13
    have G15 := ok_keep (P := l.prog) (w := w) (base := base) (T := T) A15 L Y
    have G16 := ok_moveTo A16 L Xr Y G1 m1 k1 b1 G18 m18 k18 b18 G14 m14 b14
    have G17 := ok_move A17 L Xr Y G1 m1 k1 b1
    have G19 := ok_dice (P := l.prog) (w := w) (base := base) A19 Y
    have G20 := ok_roll (P := l.prog) (w := w) (base := base) A20 Y
    have G21 := ok_rounds (T := T) A21 Y G19 m19 k19 b19
    have G23 := ok_lway (P := l.prog) (w := w) (base := base) (T := T) A23 Y
    have G24 := ok_less (P := l.prog) (w := w) (base := base) (T := T) A24 Y
    have G25 := ok_more (P := l.prog) (w := w) (base := base) (T := T) A25 Y
    have G26 := ok_out (P := l.prog) (w := w) (base := base) (T := T) A26 Y
    have G27 := ok_lchg (P := l.prog) (w := w) (base := base) (T := T) A27 Y
    have t22 : Tol K mg (He.ga K "StoreError") _ d22 := ⟨A22, m22, b22⟩
    have Mm : Ms l.prog w K mg base T (He.ga K "Stage") (He.ga K "PathError") (He.ga K "StageError") (He.ga K "StoreError") ⟨_, _, _, _, _, _, _, _, _, _, _, _, _, d5, d6, d7, d8, d9, d10, d11, d12, d13, d14, d15, d16, d17⟩ :=
      ⟨L, Xr, Y, mm, G5, b5, G6, m6, b6, G7, m7, b7, G8, m8, b8, G9, m9, b9, G10, m10, b10, G11, m11, b11, G12, m12, b12, G13, m13, b13, G14, m14, b14, G15, m15, b15, G16, m16, b16, G17, m17, b17⟩
    have La1 : La l.prog w K mg base T (He.ga K "StoreError") ⟨_, _, _, _, _, _, d23, d24, d25, d26, d20, d22⟩ := ⟨G23, m23, k23, b23, G24, m24, k24, b24, G25, m25, k25, b25, G26, m26, k26, b26, G20, m20, k20, b20, t22⟩
    have G28 := ok_deed A28 Mm La1 tm
    have G29 := ok_plain A29 Mm tp t22
    exact ok_law (N2 := ⟨_, _, _, _, _, d28, d18, d27, d21, d29⟩) A30 Mm La1 ⟨G28, m28, k28, b28, G18, m18, k18, b18, G27, m27, k27, b27, G21, m21, k21, b21, G29, m29, k29, b29⟩
end Sg
end Text_S47
section Text_S48
set_option Elab.async false
set_option linter.all false
set_option maxRecDepth 100000
set_option maxHeartbeats 0
namespace Sg
open PySem PySem.Spec PyProof.Rows L2
abbrev RW : PySem.W.OpenRow := PySem.W.OpenLaw.row PySem.Challenge.rw_repostack_k08_files_that_are_staged
abbrev hk : PySem.W.Hook := He.hookX 6 faL fnL [] tfL exL
def ob (s : PySem.W.SharedT) : He.AlX := He.obsX 6 faL fnL [] tfL exL (HandSHeadRun.getT s)
theorem ob_eq (s : PySem.W.SharedT) : ob s = hk.obs s.abs := He.obsX_eq (HandSHeadRun.getT_eq s)
theorem run (w : World) : HandSHeadRun.RunEq RW (PySem.W.view RW.prog [26]) hk ob 3000 ["__name__", "StoreError", "PathError", "StageError", "END", "check_path", "check_files", "changes", "fits", "left_out", "Stage", "in_way", "_law_dice", "_law_roll", "_law_rounds", "_law_told", "_law_way", "_law_less", "_law_more", "_law_out", "_law_changes", "_law_deed", "_law_plain"] w := by
  intro os
  kernel_rfl
end Sg
open PySem PySem.W PySem.Calls PyProof.Rows
theorem PySem.Challenge.cw_repostack_k08_files_that_are_staged_holds : PySem.Challenge.rw_repostack_k08_files_that_are_staged.Holds := by
  w_on; o_law
  refine HandSHeadRun.head_any (r := OpenLaw.row PySem.Challenge.rw_repostack_k08_files_that_are_staged) (q := view (OpenLaw.row PySem.Challenge.rw_repostack_k08_files_that_are_staged).prog [26]) (H := Sg.hk) (ob := Sg.ob) (M := 3000) (loose := ["__name__", "StoreError", "PathError", "StageError", "END", "check_path", "check_files", "changes", "fits", "left_out", "Stage", "in_way", "_law_dice", "_law_roll", "_law_rounds", "_law_told", "_law_way", "_law_less", "_law_more", "_law_out", "_law_changes", "_law_deed", "_law_plain"]) (d := HandSHeadRun.topDef (OpenLaw.row PySem.Challenge.rw_repostack_k08_files_that_are_staged).prog 26) (kwd := []) Sg.ob_eq
    (by kernel_rfl) (fun s => by kernel_rfl) Sg.run (by kernel_rfl) (by kernel_rfl) (by kernel_rfl) (by rfl) (by first | assumption | decide +kernel) (by decide +kernel) ⟨rfl, rfl, rfl, rfl, rfl, by decide +kernel⟩ ?hw ?hc
  case hw => w_witness2
  case hc =>
    refine LamX.walk_ofTsE (l := PySem.Challenge.rw_repostack_k08_files_that_are_staged) (n := 63) (k := 28) (x := "script") (CX := fun _ => L2.CX0) rfl (by decide) (by kernel_rfl) ⟨rfl, by decide, by decide⟩ ?F (fun _ _ _ _ _ z => z)
    intro w mg fa h Y G hmg0
    obtain ⟨K, KX, c⟩ := Y
    have hmg : mg ("law" : PySem.Str) = some (.ref fa) := by
      have e : (HandSHeadRun.topDef (OpenLaw.row PySem.Challenge.rw_repostack_k08_files_that_are_staged).prog 26).name = ("law" : PySem.Str) := by kernel_rfl
      rw [← e]
      exact hmg0
    exact ⟨K, KX, Sg.law_at KX G hmg c⟩
end Text_S48
