import PyProof.Rows.All
import Wide.All
import OpenK.AllK
import Wide.FinOn
import HandS.ForMost
import HandS.ForExc
import HandS.WordsDict
import HandS.More
import HandS.Sort
import HandS.DictComp
import HandS.ListItems
import HandS.DictEq
import HandS.Flow
import HandS.Wide
import HandS.TryOnly
import HandS.ExcOwn
import HandS.AnyAll
import HandS.GenList
import HandS.EndBits
import HandS.Lambda
import HandS.EndTab
import PySem.Challenge.RW_repostack_k01_digests_of_texts
section Text_Gx
set_option Elab.async false
set_option linter.all false
set_option maxRecDepth 100000
set_option maxHeartbeats 2000000
/-! Gx: any and all of a generator expression whose element may call defs and change the heap. -/
namespace Gx
open PySem PySem.Spec PyProof.Rows L2 GxR

/-- the state may differ in generators, tokens and draws -/
structure Like (s s' : Shared) : Prop where
  heap : s'.heap = s.heap
  os : s'.os = s.os
  bare : AllBare s'.gens
theorem Like.inv {X : Cx} {pins : List (Addr × Obj)} {σ : L2.St} {H : Hp} {s s' : Shared} (l : Like s s') (I : Inv X pins σ H s) : Inv X pins σ H s' := by
  obtain ⟨h', g', d', t', o'⟩ := s'
  have e1 : h' = s.heap := l.heap
  have e2 : o' = s.os := l.os
  subst e1
  subst e2
  exact I.step (g' := g') (d' := d') (t' := t') (ch := []) (fun b hb => absurd hb (by simp)) (fun _ _ _ _ _ e _ => e) (fun _ o _ _ _ e _ => ⟨o.slots, e⟩)
    (fun _ _ _ _ n => n) (fun _ o _ e => ⟨o, e⟩) (fun _ _ e => e) (fun _ _ _ e => e) (fun _ _ e => ⟨#[], by rw [e]; simp⟩) (fun _ hn => hn) I.hok l.bare

/-- the generator's own frame, as a context: begun at s (before the frame was laid), the walked thing's objects at fp; ga: the generator's object, pinned -/
abbrev gCx (X : Cx) (s : Shared) (H : Hp) (A : Around) (env : Env) (fp : List Addr) (pn : List (Addr × Obj)) : Cx :=
  { X with A := A, s_0 := s, H_0 := H, env := env, outer := X.stack, stack := env :: X.stack, ex := fp, fn := fun _ => false, calm := true, pn := pn, xe := fun _ _ => False }

/-- the names of a generator expression: own ones with their places, or captured -/
structure GOk (N : List Str) (sc scope : Scope) (own : List (Str × Nat)) : Prop where
  kind : scope.kind = .function
  co : scope.isCoroutine = false
  uniq : ∀ y ∈ scope.names, scope.names.lookup y.1 = some y.2
  cell : ∀ y ∈ scope.names, y.2 ≠ .cell
  dot : scope.names.lookup (".0" : Str) = some NameKind.local
  ix : ∀ p ∈ own, N[p.2]? = some p.1
  free : ∀ y ∈ scope.names, y.2 = .free → sc.names.lookup y.1 = some .cell ∨ sc.names.lookup y.1 = some .free
  own : ∀ y ∈ scope.names, y.2 = .local → y.1 ∈ own.map (·.1) ∨ y.1 ∉ N

def gOkB (N : List Str) (sc scope : Scope) (own : List (Str × Nat)) : Bool :=
  decide (scope.kind = .function) && !scope.isCoroutine && (scope.names.all fun y => decide (scope.names.lookup y.1 = some y.2)) && (scope.names.all fun y => !decide (y.2 = .cell)) &&
  decide (scope.names.lookup (".0" : Str) = some NameKind.local) && (own.all fun p => decide (N[p.2]? = some p.1)) &&
  (scope.names.all fun y => !decide (y.2 = .free) || decide (sc.names.lookup y.1 = some .cell) || decide (sc.names.lookup y.1 = some .free)) &&
  (scope.names.all fun y => !decide (y.2 = .local) || decide (y.1 ∈ own.map (·.1)) || !decide (y.1 ∈ N))
theorem gOk_by {N : List Str} {sc scope : Scope} {own : List (Str × Nat)} (h : gOkB N sc scope own = true) : GOk N sc scope own := by
  unfold gOkB at h
  simp only [Bool.and_eq_true, Bool.or_eq_true, Bool.not_eq_true', decide_eq_true_eq, decide_eq_false_iff_not, List.all_eq_true] at h
  obtain ⟨⟨⟨⟨⟨⟨⟨h1, h2⟩, h3⟩, h4⟩, h5⟩, h6⟩, h7⟩, h8⟩ := h
  refine ⟨h1, h2, h3, h4, h5, h6, fun y hy e => ?_, fun y hy e => ?_⟩
  · rcases h7 y hy with (z | z) | z
    · exact absurd e z
    · exact .inl z
    · exact .inr z
  · rcases h8 y hy with (z | z) | z
    · exact absurd e z
    · exact .inl z
    · exact .inr z

section
variable {X : Cx} {pins : List (Addr × Obj)} {σ : L2.St} {H : Hp} {s : Shared}

/-- the captured cells of the frame -/
theorem clo_look {names : List (Str × NameKind)} (hf : ∀ y ∈ names, y.2 = .free → ∃ c, X.env.cells.lookup y.1 = some c) {y : Str} {c : Addr} (e : (cloFrom X.env.cells names []).lookup y = some c) : X.env.cells.lookup y = some c := by
  rcases cloFrom_mem (PySem.mem_of_lookup e) with hm | ⟨h1, h2⟩
  · cases hm
  · obtain ⟨c1, hc⟩ := hf _ h1 rfl
    have hc : X.env.cells.lookup y = some c1 := hc
    rw [hc] at h2
    rw [hc]
    exact congrArg some h2.symm
theorem clo_has {names : List (Str × NameKind)} {y : Str} (hl : names.lookup y = some .free) : ∃ c, (cloFrom X.env.cells names []).lookup y = some c :=
  mem_lookup (cloFrom_has (cells := X.env.cells) (acc := []) (PySem.mem_of_lookup hl))

/-- the generator's context holds at its start -/
theorem g_start {scope : Scope} {own : List (Str × Nat)} {fp : List Addr} {A : Around} {code : Value} {it : Value} {ga : Addr} {gobj : Obj} {h5 : Heap} {g5 : Array GenState} {d5 : Drawn} {t5 : Nat}
    (I : Inv X pins σ H s) (ok : GOk X.N X.env.scope scope own) (hN : X.N.Nodup) (hd : A.handled = none)
    (hA : A.frames = some (genEnv scope (cloFrom X.env.cells scope.names []) s.heap.objs.size code builtinsNs X.env :: X.stack))
    (hfp : ∀ b ∈ fp, FpOk X pins H b ∧ b < s.heap.objs.size)
    (keep : ∀ b o, s.heap.get? b = some o → h5.get? b = some o)
    (hns : h5.Ns s.heap.objs.size (fun y => if y = ".0" then some it else none))
    (hga : s.heap.objs.size < ga) (hgo : h5.get? ga = some gobj) (hgc : ∀ v, gobj.data ≠ .cell v) (hb : AllBare g5) :
    Inv (gCx X s H A (genEnv scope (cloFrom X.env.cells scope.names []) s.heap.objs.size code builtinsNs X.env) fp [(ga, gobj)]) [] (wipe σ (own.map (·.2))) H
      { s with heap := h5, gens := g5, drawn := d5, toks := t5 } := by
  have hfree : ∀ y ∈ scope.names, y.2 = .free → ∃ c, X.env.cells.lookup y.1 = some c := fun y hy e => by
    rcases ok.free y hy e with k | k
    · exact I.ok.has _ (.inl k)
    · exact I.ok.has _ (.inr k)
  have cm : ∀ {y c}, (cloFrom X.env.cells scope.names []).lookup y = some c → X.env.cells.lookup y = some c := fun {y c} e => clo_look hfree e
  have clt : ∀ {y c}, (cloFrom X.env.cells scope.names []).lookup y = some c → c < s.heap.objs.size := fun {y c} e => by
    obtain ⟨v, z⟩ := I.cell y c (cm e)
    exact z.lt
  have okG : (gCx X s H A (genEnv scope (cloFrom X.env.cells scope.names []) s.heap.objs.size code builtinsNs X.env) fp [(ga, gobj)]).Ok := by
    refine ⟨I.ok.mod, ok.kind, I.ok.glob, rfl, Nat.le_refl _, fun y z c e1 e2 => I.ok.inj y z c (cm e1) (cm e2), fun y hy => ?_, fun y c z _ => ?_, fun _ => hd, hA, .inr ⟨rfl, rfl⟩,
      fun b hb => ⟨Nat.ne_of_lt (hfp b hb).2, fun y c e z => ?_⟩, I.bs, Nat.le_trans I.ok.bsz I.sz, fun b o e hb => ?_, fun b hb z => ?_, I.stack, I.stkFree⟩
    · have hy : scope.names.lookup y = some .cell ∨ scope.names.lookup y = some .free := hy
      rcases hy with hy | hy
      · exact absurd rfl (ok.cell _ (PySem.mem_of_lookup hy))
      · exact clo_has hy
    · have z : false = true := z
      cases z
    · exact (hfp b hb).1.2.2.2.2.1 y c (cm e) z
    · rcases (hfp b hb).1.2.2.2.1 with z | z
      · exact I.ok.noex b o e z
      · exact absurd (Nat.lt_of_lt_of_le (Heap.lt_size e) (Nat.le_trans I.ok.bsz z)) (Nat.lt_irrefl _)
    · rcases List.mem_cons.mp (I.stkSub b z) with z | z
      · exact (hfp b hb).1.2.1 z
      · exact (hfp b hb).1.2.2.1 z
  refine ⟨okG, rfl, hb, Un.kept keep, ⟨_, hns, fun i y av e1 e2 e3 => ?_⟩, fun y c e => ?_, I.hok.fresh (Nat.le_refl _), fun y c e => ?_, fun p hp => ?_, I.hok.kept keep, by rw [wipe_length]; exact I.len⟩
  · obtain ⟨e2, hne⟩ := wipe_some e2
    have e3 : Vis scope y := e3
    have fr : scope.names.lookup y = some .free := by
      rcases e3 with k | k | k
      · rcases ok.own _ (PySem.mem_of_lookup k) rfl with e' | e'
        · obtain ⟨p, hp, hpy⟩ := List.mem_map.mp e'
          have e4 := ok.ix p hp
          have e5 : p.1 = y := hpy
          rw [e5] at e4
          exact absurd (List.mem_map.mpr ⟨p, hp, nodup_ix hN e4 e1⟩) hne
        · exact absurd (List.mem_of_getElem? e1) e'
      · exact absurd rfl (ok.cell _ (PySem.mem_of_lookup k))
      · exact k
    obtain ⟨m, hn, hl⟩ := I.loc
    have vis : Vis X.env.scope y := (ok.free _ (PySem.mem_of_lookup fr) rfl).elim (fun k => .inr (.inl k)) (fun k => .inr (.inr k))
    obtain ⟨w, r, q⟩ := hl i y av e1 e2 vis
    obtain ⟨c, hc⟩ := clo_has (X := X) fr
    refine ⟨w, r, .inr ⟨.inr fr, c, hc, ?_⟩⟩
    have hc' := cm hc
    rcases q with ⟨k, _⟩ | ⟨_, c', e', z⟩
    · have k : X.env.scope.names.lookup y = some .local := k
      rcases ok.free _ (PySem.mem_of_lookup fr) rfl with k' | k' <;> rw [show X.env.scope.names.lookup y = _ from k'] at k <;> cases k
    · rw [hc'] at e'
      cases e'
      exact z.keeps keep
  · obtain ⟨v, z⟩ := I.cell y c (cm e)
    exact ⟨v, z.keeps keep⟩
  · exact I.freeC y c (cm e)
  · have hp' : p ∈ [(ga, gobj)] := by simpa using hp
    rw [List.mem_singleton.mp hp']
    refine ⟨hgo, I.hok.fresh (Nat.le_of_lt hga), Nat.ne_of_gt hga, fun z => ?_, hgc⟩
    obtain ⟨_, o, ho, _⟩ := I.stack.mem z
    have h2 := I.stkFree
    rcases List.mem_cons.mp (I.stkSub ga z) with z | z
    · have := I.lt
      rw [← z] at this
      exact absurd (Nat.lt_trans hga this) (Nat.lt_irrefl _)
    · exact I.nofs (Nat.le_of_lt hga) z
end
end Gx
end Text_Gx
section Text_Gy
set_option Elab.async false
set_option linter.all false
set_option maxRecDepth 100000
set_option maxHeartbeats 2000000
namespace Gx
open PySem PySem.Spec PyProof.Rows L2 GxR

/-- the end of the walk: nothing is left -/
def REx (Z : Cx) (Q : VK) (neg : Bool) : GenEnd := fun _ _ r s₁ => r = .ok .next ∧ ∃ σ' H', Inv Z [] σ' H' s₁ ∧ Q (.bl neg) H'
/-- a truth value is handed out: the walk goes on, or is left -/
def YEx (Z : Cx) (Q : VK) (neg : Bool) : Protocol := fun _ _ v s₁ kap => ∃ c ps σ' H', v = .bool c ∧ Inv Z ps σ' H' s₁ ∧ (c = neg → ∀ s', Like s₁ s' → kap (.send .none) s') ∧ (c ≠ neg → Q (.bl (!neg)) H')

/-- a turn: nothing is left, or the next item's test -/
def TurnG (J : It) (g : TG) (tt : TT) (te : TE) (vs : List Nat) (σ0 : L2.St) (Q : VK) (neg : Bool) (W : Nat → Nat → Hp → Prop) : Prop :=
  ∀ i m H, W i m H → (J.stop i H ∧ Q (.bl neg) H) ∨ (J.go i H ∧ ∃ Nx : Hp → Prop, (∀ H', Nx H' → ∃ m', m' < m ∧ W (i + 1) m' H') ∧
    ∀ x H', J.yld i H x H' → g x σ0 H' fun σ2 H2 => wipe σ2 vs = σ0 ∧ tt σ2 H2 fun b H3 => if b = true then te σ2 H3 fun y H4 => ∃ c, y = .bl c ∧ (if c = neg then Nx H4 else Q (.bl (!neg)) H4) else Nx H3)

section
variable {Z : Cx}
theorem seg_turns {A : Around} {elt tg iter : Expr} {ifs : List Expr} {scope : Scope} {pos : Pos} {it : Addr} {fp : List Addr} {tn : Nat → Heap → Prop} {J : It} {g : TG} {tt : TT} {te : TE} {vs : List Nat} {σ0 : L2.St} {Q : VK} {neg : Bool}
    {W : Nat → Nat → Hp → Prop} (hA : A.over (.compLoop (.GeneratorExp elt [⟨tg, iter, ifs, 0⟩] scope pos) 0 (.ref it) .none Z.env) [] = Z.A) (hx : Z.xe = fun _ _ => False) (hco : Z.env.scope.isCoroutine = false) (hcalm : Z.calm = true) (hex : Z.ex = fp)
    (hpn : ∀ p ∈ Z.pn, ∀ b ∈ fp, p.1 ≠ b) (T : Turn Z.prog Z.w Z.K tg J fp it tn) (pg : PG Z tg g) (pt : PTs Z ifs tt) (pe : PE Z elt te) (hW : TurnG J g tt te vs σ0 Q neg W) :
    ∀ (m n i : Nat) (s₀ s : Shared) (H : Hp), m + 1 ≤ n → Inv Z [] σ0 H s → tn i s.heap → (∀ b ∈ fp, H b = none) → W i m H →
      Seg (model Z.prog Z.w) A (REx Z Q neg) (YEx Z Q neg) n s₀ (.compLoop (.GeneratorExp elt [⟨tg, iter, ifs, 0⟩] scope pos) 0 (.ref it) .none Z.env)
        ((model Z.prog Z.w).den (.compLoop (.GeneratorExp elt [⟨tg, iter, ifs, 0⟩] scope pos) 0 (.ref it) .none Z.env)) [] s := by
  have stat : ∀ {σ' : L2.St} {H' : Hp} {s' : Shared}, Inv Z [] σ' H' s' → (∀ b ∈ fp, H' b = none) → ∀ b ∈ fp, FpOk Z [] H' b := fun {σ' H' s'} I hn b hb => by
    have hb' : b ∈ Z.ex := by rw [hex]; exact hb
    refine ⟨hn b hb, (I.ok.exf b hb').1, I.ok.exfs b hb', .inl hb', (I.ok.exf b hb').2, fun p hp => hpn p ?_ b hb⟩
    simpa using hp
  intro m
  induction m using Nat.strongRecOn with
  | ind m ih =>
    intro n i s₀ s H hmn I st nf w
    obtain ⟨n, rfl⟩ : ∃ k, n = k + 1 := ⟨n - 1, by omega⟩
    show Seg _ A _ _ _ s₀ _ ((compTurn (.GeneratorExp elt [⟨tg, iter, ifs, 0⟩] scope pos) 0 (.ref it) .none Z.env).onRaise (leaving Z.env)) [] s
    rw [compTurn_gen, Sem.onRaise_eq_wrap]
    refine seg_bind_wrap (wpAny_standAt ?_)
    rcases hW i m H w with ⟨stop, qq⟩ | ⟨go, Nx, hNx, step⟩
    · have td := T.done Z rfl rfl rfl hcalm i [] s σ0 H (fun _ _ => False) I (stat I nf) st stop
      refine seg_bind_wrap ?_
      rw [hA]
      refine thnF td fun r s1 hr => ?_
      obtain ⟨hr, I1⟩ := hr
      subst hr
      exact seg_end (.ok .next) ⟨rfl, σ0, H, I1, qq⟩
    · have ti := T.item Z rfl rfl rfl hcalm i [] s σ0 H (fun _ _ => False) I (stat I nf) st go
      refine seg_bind_wrap ?_
      rw [hA]
      refine thnF ti fun r s1 hr => ?_
      obtain ⟨u, hr, h1⟩ := hr
      subst hr
      refine seg_bind_wrap ?_
      rw [hA]
      refine thnF h1 fun _ s2 h2 => ?_
      obtain ⟨x, H2, I2, r2, y2, st2, n2⟩ := h2
      have I2' := I2.pinned (stat I2 n2) (T.obj _ _ st2)
      refine seg_bind_wrap ?_
      rw [hA]
      have h3 := pg.run _ s2 _ H2 x u _ I2' r2 (step x H2 y2)
      rw [hx] at h3
      refine thnF h3 fun _ s3 q3 => ?_
      obtain ⟨σ3, H3, I3, hw3, q3⟩ := q3
      refine seg_bind_wrap ?_
      rw [hA]
      have h4 := pt.run _ s3 σ3 H3 _ I3 q3
      rw [hx] at h4
      refine thnF h4 fun b s4 q4 => ?_
      obtain ⟨H4, I4, q4⟩ := q4
      -- a turn's end
      have hl : σ0.length = σ3.length := by rw [← hw3, wipe_length]
      have hk : ∀ (j : Nat) v, σ0[j]? = some (some v) → σ3[j]? = some (some v) := fun j v e => by
        rw [← hw3] at e
        exact (wipe_some e).1
      have fin : ∀ {k : Nat} {s₀' s' : Shared} {H' : Hp}, m ≤ k → Inv Z ([] ++ pinsAt fp s2.heap) σ3 H' s' → Nx H' →
          Seg (model Z.prog Z.w) A (REx Z Q neg) (YEx Z Q neg) k s₀' (.compLoop (.GeneratorExp elt [⟨tg, iter, ifs, 0⟩] scope pos) 0 (.ref it) .none Z.env) ((model Z.prog Z.w).den (.compLoop (.GeneratorExp elt [⟨tg, iter, ifs, 0⟩] scope pos) 0 (.ref it) .none Z.env)) [] s' := fun {k s₀' s' H'} hk' I' nx => by
        obtain ⟨m', hm, w'⟩ := hNx H' nx
        have pin' : ∀ b ∈ fp, ∀ o, s2.heap.get? b = some o → s'.heap.get? b = some o ∧ H' b = none := fun b hb o e =>
          let z := I'.pin (b, o) (List.mem_append_right _ (List.mem_append_right _ (mem_pinsAt hb e)))
          ⟨z.1, z.2.1⟩
        refine ih m' hm k (i + 1) s₀' s' H' (by omega) ((I'.unpinned (pins := [])).weak hl hk) (T.keep _ _ _ st2 fun b hb o e => (pin' b hb o e).1) (fun b hb => ?_) w'
        obtain ⟨o, e, _⟩ := T.obj _ _ st2 b hb
        exact (pin' b hb o e).2
      cases b with
      | false =>
        simp only [Bool.false_eq_true, if_false] at q4 ⊢
        exact seg_again rfl (fin (by omega) I4 q4)
      | true =>
        simp only [if_true] at q4 ⊢
        have hy : ∀ v, yieldOut Z.env v = yieldValue v := fun v => by simp only [yieldOut, hco, Bool.false_eq_true, if_false]
        simp only [hy]
        rw [Sem.bind_eq_wrap', Sem.bind_eq_wrap', Sem.wrap_wrap, Sem.wrap_wrap]
        refine seg_wrap ?_
        rw [hA]
        have h5 := pe.run _ s4 σ3 H4 _ I4 q4
        rw [hx] at h5
        refine thnF h5 fun v s5 q5 => ?_
        obtain ⟨yv, H5, I5, r5, c, ey, q5⟩ := q5
        subst ey
        obtain rfl : v = Value.bool c := r5
        refine seg_at (seg_yield rfl rfl rfl ⟨c, _, σ3, H5, rfl, I5, fun hc s' hl' => ?_, fun hc => ?_⟩)
        · rw [if_pos hc] at q5
          exact seg_again rfl (fin (by omega) (hl'.inv I5) q5)
        · rw [if_neg hc] at q5
          exact q5
end
end Gx
end Text_Gy
section Text_Gz
set_option Elab.async false
set_option linter.all false
set_option maxRecDepth 100000
set_option maxHeartbeats 4000000
namespace Gx
open PySem PySem.Spec PyProof.Rows L2 GxR

theorem over_loop {A : Around} {elt tg iter : Expr} {ifs : List Expr} {scope : Scope} {pos : Pos} {it : Value} {env : Env} : A.over (.compLoop (.GeneratorExp elt [⟨tg, iter, ifs, 0⟩] scope pos) 0 it .none env) [] = A.deeper env := by rfl
theorem over_start {A : Around} {elt tg iter : Expr} {ifs : List Expr} {scope : Scope} {pos : Pos} {it : Value} {env : Env} : A.over (.compStart (.GeneratorExp elt [⟨tg, iter, ifs, 0⟩] scope pos) 0 it .none env) [] = A.deeper env := by rfl
theorem Room.g {k : Nat} {A : Around} (r : Room (k + 1) A) (env : Env) : Room k (A.in1.in1.deeper env) :=
  ⟨r.hd, by have := r.dp; show A.depth + 1 + 3 * k + 5 < _; omega, by have := r.un; show A.units + 1 + 1 + 3 + 16 * k + 200 < _; omega⟩

section
variable {Z : Cx}
theorem seg_first {A : Around} {elt tg iter : Expr} {ifs : List Expr} {scope : Scope} {pos : Pos} {it : Addr} {fp : List Addr} {tn : Nat → Heap → Prop} {J : It} {g : TG} {tt : TT} {te : TE} {vs : List Nat} {σ0 : L2.St} {Q : VK} {neg : Bool}
    {W : Nat → Nat → Hp → Prop} (hA : A.deeper Z.env = Z.A) (hx : Z.xe = fun _ _ => False) (hco : Z.env.scope.isCoroutine = false) (hcalm : Z.calm = true) (hex : Z.ex = fp)
    (hpn : ∀ p ∈ Z.pn, ∀ b ∈ fp, p.1 ≠ b) (T : Turn Z.prog Z.w Z.K tg J fp it tn) (pg : PG Z tg g) (pt : PTs Z ifs tt) (pe : PE Z elt te) (hW : TurnG J g tt te vs σ0 Q neg W)
    (m n : Nat) (s₀ s : Shared) (H : Hp) (hm : m + 1 ≤ n) (I : Inv Z [] σ0 H s) (st : tn 0 s.heap) (nf : ∀ b ∈ fp, H b = none) (w : W 0 m H) :
      Seg (model Z.prog Z.w) A (REx Z Q neg) (YEx Z Q neg) n s₀ (.compStart (.GeneratorExp elt [⟨tg, iter, ifs, 0⟩] scope pos) 0 (.ref it) .none Z.env)
        ((model Z.prog Z.w).den (.compStart (.GeneratorExp elt [⟨tg, iter, ifs, 0⟩] scope pos) 0 (.ref it) .none Z.env)) [] s := by
  have loop := fun s₀ => seg_turns (A := A) (pos := pos) (scope := scope) (iter := iter) (over_loop.trans hA) hx hco hcalm hex hpn T pg pt pe hW m n 0 s₀ s H hm I st nf w
  show Seg _ A _ _ _ s₀ _ ((compStart (.GeneratorExp elt [⟨tg, iter, ifs, 0⟩] scope pos) 0 (.ref it) .none Z.env).onRaise (leaving Z.env)) [] s
  unfold compStart
  rw [Sem.onRaise_eq_wrap]
  show Seg _ A _ _ _ s₀ _ ((ask >>= _).wrap _ _ _ _) [] s
  refine seg_bind_wrap (wpAny_askSetting ?_)
  split
  · exact seg_again rfl (loop s₀)
  · first
      | exact seg_bind_wrap (wpAny_rule (seg_bind_wrap (wpAny_standAt (seg_bind_wrap (T.self _ 0 s _ _ st (seg_again rfl (loop s₀)))))))
      | (refine seg_bind_wrap (wpAny_rule ?_); show Seg _ A _ _ _ s₀ _ ((standAt iter.pos >>= _).wrap _ _ _ _) [] s; exact seg_bind_wrap (wpAny_standAt (seg_bind_wrap (T.self _ 0 s _ _ st (seg_again rfl (loop s₀))))))

theorem like_setGen {s : Shared} {g : Nat} {x : GenState} (hb : AllBare s.gens) (hx : x.bare = true) : Like s (s.setGen g x) := ⟨rfl, rfl, allBare_setGen hb hx⟩
theorem like_trans {s s1 s2 : Shared} (a : Like s s1) (b : Like s1 s2) : Like s s2 := ⟨b.heap.trans a.heap, b.os.trans a.os, b.bare⟩

/-- any's loop over a generator of ours -/
theorem any_turns {A : Around} {R : Result → Shared → Prop} {ga : Addr} {g : Nat} {Q : VK} (hh : A.handled = none) (hd : A.depth < recursionLimit)
    (hG : ∀ {ps σ' H'} {s' : Shared}, Inv Z ps σ' H' s' → s'.heap.IsGen ga g)
    (hR : ∀ (b : Bool) ps σ' H' s', Inv Z ps σ' H' s' → Q (.bl b) H' → R (.ok (.ret (.bool b))) s') :
    ∀ (n : Nat) (s : Shared), s.heap.IsGen ga g → s.heap.NoLimit →
      (∃ gs, s.gens[g]? = some gs ∧ gs.Goes (model Z.prog Z.w) A.in1.in1 (REx Z Q false) (YEx Z Q false) n (.send .none) (s.setGen g .running)) →
      codeAny (model Z.prog Z.w) A (.builtin "any.loop" ⟨[.ref ga], []⟩) R s := by
  intro n
  induction n with
  | zero =>
    intro s hg hl hgo
    obtain ⟨gs, hgs, hgo⟩ := hgo
    refine codeAny_builtin F.entry_any_loop ?_
    rw [Around.under_plainId F.plain_any_loop _]
    show wpAny _ A.in1 (pyNext (.ref ga) >>= _) _ _ s
    refine wpAny_bind (wpAny_pyNext_genexpQ (A := A.in1) (P := fun _ _ s₁ => ∃ σ' H', Inv Z [] σ' H' s₁ ∧ Q (.bl false) H') hh hl hd hg hgs hgo (fun v s₁ gs' hb hv => ?_) (fun s₁ hp h' hk => ?_))
    · obtain ⟨c, ps, σ', H', rfl, I, h1, h2⟩ := hv
      cases c with
      | false => exact (h1 rfl s₁ ⟨rfl, rfl, I.bare⟩).elim
      | true =>
        refine wpAny_bind (wpAny_holding (wpAny_truthy_bool (wpAny_bind (wpAny_letGo ?_))))
        simp only [if_true]
        refine wpAny_bind (wpAny_rule (wpAny_pure ?_))
        exact hR true ps σ' H' _ ((like_setGen I.bare hb).inv I) (h2 (by decide))
    · obtain ⟨σ', H', I, q⟩ := hp
      refine wpAny_bind (wpAny_rule (wpAny_pure ?_))
      exact hR false [] σ' H' _ (((like_setGen (g := g) (x := .finished) I.bare rfl).inv I).kept (t' := s₁.toks) hk) q
  | succ n ih =>
    intro s hg hl hgo
    obtain ⟨gs, hgs, hgo⟩ := hgo
    have hgl : g < s.gens.size := (Array.getElem?_eq_some_iff.mp hgs).1
    refine codeAny_builtin F.entry_any_loop ?_
    rw [Around.under_plainId F.plain_any_loop _]
    show wpAny _ A.in1 (pyNext (.ref ga) >>= _) _ _ s
    refine wpAny_bind (GenW.wpAny_gsz (n := g + 1) hgl (wpAny_pyNext_genexpQ (A := A.in1) (P := fun _ _ s₁ => ∃ σ' H', Inv Z [] σ' H' s₁ ∧ Q (.bl false) H') hh hl hd hg hgs hgo (fun v s₁ gs' hb hv hsz => ?_) (fun s₁ hp h' hk hsz => ?_)))
    · obtain ⟨c, ps, σ', H', rfl, I, h1, h2⟩ := hv
      have L1 := like_setGen (g := g) I.bare hb
      have I1 := L1.inv I
      refine wpAny_bind (wpAny_holding (wpAny_truthy_bool (wpAny_bind (wpAny_letGo ?_))))
      cases c with
      | false =>
        simp only [Bool.false_eq_true, if_false]
        have hsz1 : g < s₁.gens.size := by
          have q : (s₁.setGen g gs').gens.size = s₁.gens.size := GenW.setGen_size _ _ _
          have hsz' : g + 1 ≤ (s₁.setGen g gs').gens.size := hsz
          omega
        refine wpAny_pure ⟨plainId_quiet F.plain_any_loop _, ih _ (hG I1) I1.nolimit ⟨gs', setGen_at hsz1, ?_⟩⟩
        exact h1 rfl _ (like_trans L1 (like_setGen L1.bare rfl))
      | true =>
        simp only [if_true]
        refine wpAny_bind (wpAny_rule (wpAny_pure ?_))
        exact hR true ps σ' H' _ I1 (h2 (by decide))
    · obtain ⟨σ', H', I, q⟩ := hp
      refine wpAny_bind (wpAny_rule (wpAny_pure ?_))
      exact hR false [] σ' H' _ (((like_setGen (g := g) (x := .finished) I.bare rfl).inv I).kept (t' := s₁.toks) hk) q

/-- all's loop over a generator of ours -/
theorem all_turns {A : Around} {R : Result → Shared → Prop} {ga : Addr} {g : Nat} {Q : VK} (hh : A.handled = none) (hd : A.depth < recursionLimit)
    (hG : ∀ {ps σ' H'} {s' : Shared}, Inv Z ps σ' H' s' → s'.heap.IsGen ga g)
    (hR : ∀ (b : Bool) ps σ' H' s', Inv Z ps σ' H' s' → Q (.bl b) H' → R (.ok (.ret (.bool b))) s') :
    ∀ (n : Nat) (s : Shared), s.heap.IsGen ga g → s.heap.NoLimit →
      (∃ gs, s.gens[g]? = some gs ∧ gs.Goes (model Z.prog Z.w) A.in1.in1 (REx Z Q true) (YEx Z Q true) n (.send .none) (s.setGen g .running)) →
      codeAny (model Z.prog Z.w) A (.builtin "all.loop" ⟨[.ref ga], []⟩) R s := by
  intro n
  induction n with
  | zero =>
    intro s hg hl hgo
    obtain ⟨gs, hgs, hgo⟩ := hgo
    refine codeAny_builtin F.entry_all_loop ?_
    rw [Around.under_plainId F.plain_all_loop _]
    show wpAny _ A.in1 (pyNext (.ref ga) >>= _) _ _ s
    refine wpAny_bind (wpAny_pyNext_genexpQ (A := A.in1) (P := fun _ _ s₁ => ∃ σ' H', Inv Z [] σ' H' s₁ ∧ Q (.bl true) H') hh hl hd hg hgs hgo (fun v s₁ gs' hb hv => ?_) (fun s₁ hp h' hk => ?_))
    · obtain ⟨c, ps, σ', H', rfl, I, h1, h2⟩ := hv
      cases c with
      | true => exact (h1 rfl s₁ ⟨rfl, rfl, I.bare⟩).elim
      | false =>
        refine wpAny_bind (wpAny_holding (wpAny_truthy_bool (wpAny_bind (wpAny_letGo ?_))))
        simp only [Bool.false_eq_true, if_false]
        refine wpAny_bind (wpAny_rule (wpAny_pure ?_))
        exact hR false ps σ' H' _ ((like_setGen I.bare hb).inv I) (h2 (by decide))
    · obtain ⟨σ', H', I, q⟩ := hp
      refine wpAny_bind (wpAny_rule (wpAny_pure ?_))
      exact hR true [] σ' H' _ (((like_setGen (g := g) (x := .finished) I.bare rfl).inv I).kept (t' := s₁.toks) hk) q
  | succ n ih =>
    intro s hg hl hgo
    obtain ⟨gs, hgs, hgo⟩ := hgo
    have hgl : g < s.gens.size := (Array.getElem?_eq_some_iff.mp hgs).1
    refine codeAny_builtin F.entry_all_loop ?_
    rw [Around.under_plainId F.plain_all_loop _]
    show wpAny _ A.in1 (pyNext (.ref ga) >>= _) _ _ s
    refine wpAny_bind (GenW.wpAny_gsz (n := g + 1) hgl (wpAny_pyNext_genexpQ (A := A.in1) (P := fun _ _ s₁ => ∃ σ' H', Inv Z [] σ' H' s₁ ∧ Q (.bl true) H') hh hl hd hg hgs hgo (fun v s₁ gs' hb hv hsz => ?_) (fun s₁ hp h' hk hsz => ?_)))
    · obtain ⟨c, ps, σ', H', rfl, I, h1, h2⟩ := hv
      have L1 := like_setGen (g := g) I.bare hb
      have I1 := L1.inv I
      refine wpAny_bind (wpAny_holding (wpAny_truthy_bool (wpAny_bind (wpAny_letGo ?_))))
      cases c with
      | true =>
        simp only [if_true]
        have hsz1 : g < s₁.gens.size := by
          have q : (s₁.setGen g gs').gens.size = s₁.gens.size := GenW.setGen_size _ _ _
          have hsz' : g + 1 ≤ (s₁.setGen g gs').gens.size := hsz
          omega
        refine wpAny_pure ⟨plainId_quiet F.plain_all_loop _, ih _ (hG I1) I1.nolimit ⟨gs', setGen_at hsz1, ?_⟩⟩
        exact h1 rfl _ (like_trans L1 (like_setGen L1.bare rfl))
      | false =>
        simp only [Bool.false_eq_true, if_false]
        refine wpAny_bind (wpAny_rule (wpAny_pure ?_))
        exact hR false ps σ' H' _ I1 (h2 (by decide))
    · obtain ⟨σ', H', I, q⟩ := hp
      refine wpAny_bind (wpAny_rule (wpAny_pure ?_))
      exact hR true [] σ' H' _ (((like_setGen (g := g) (x := .finished) I.bare rfl).inv I).kept (t' := s₁.toks) hk) q
end
end Gx
end Text_Gz
section Text_Ga
set_option Elab.async false
set_option linter.all false
set_option maxRecDepth 100000
set_option maxHeartbeats 4000000
namespace Gx
open PySem PySem.Spec PyProof.Rows L2 GxR

/-- any, all of a generator expression: wi what is walked; P the running def's table of code objects, which may grow -/
def tGen (P : Addr) (neg : Bool) (wi : TI) (g : TG) (tt : TT) (te : TE) (vs : List Nat) : TE := fun σ H Q => wi σ H fun J H1 => TabG H1 P ∧ ∀ H2, Tabbed P H1 H2 →
  ∃ W : Nat → Nat → Hp → Prop, (∃ m, W 0 m H2) ∧ TurnG J g tt te vs (wipe σ vs) Q neg W

section
variable {X : Cx} {pins : List (Addr × Obj)} {σ : L2.St} {H : Hp} {s : Shared}
/-- the generator is made; then Q' of it -/
theorem gen_made {c P : Addr} {neg : Bool} {elt tg iter : Expr} {ifs : List Expr} {scope : Scope} {own : List (Str × Nat)} {pos : Pos} {wi : TI} {g : TG} {tt : TT} {te : TE} {k : Nat} {Q : VK} {Q' : Value → Shared → Prop}
    (hr : Room (k + 1) X.A) (TB : TabB X.base X.mg c P) (hcode : X.env.code = .ref c) (hN : X.N.Nodup) (ok : GOk X.N X.env.scope scope own) (hi : PI X tg iter wi)
    (hg : ∀ (s : Shared) (H : Hp) (C : Addr) (cd : Value) (fp : List Addr) (pn : List (Addr × Obj)), PG (gCx X s H (X.A.in1.in1.deeper (genEnv scope (cloFrom X.env.cells scope.names []) C cd builtinsNs X.env)) (genEnv scope (cloFrom X.env.cells scope.names []) C cd builtinsNs X.env) fp pn) tg g)
    (ht : ∀ (s : Shared) (H : Hp) (C : Addr) (cd : Value) (fp : List Addr) (pn : List (Addr × Obj)), Room k (X.A.in1.in1.deeper (genEnv scope (cloFrom X.env.cells scope.names []) C cd builtinsNs X.env)) → PTs (gCx X s H (X.A.in1.in1.deeper (genEnv scope (cloFrom X.env.cells scope.names []) C cd builtinsNs X.env)) (genEnv scope (cloFrom X.env.cells scope.names []) C cd builtinsNs X.env) fp pn) ifs tt)
    (he : ∀ (s : Shared) (H : Hp) (C : Addr) (cd : Value) (fp : List Addr) (pn : List (Addr × Obj)), Room k (X.A.in1.in1.deeper (genEnv scope (cloFrom X.env.cells scope.names []) C cd builtinsNs X.env)) → PE (gCx X s H (X.A.in1.in1.deeper (genEnv scope (cloFrom X.env.cells scope.names []) C cd builtinsNs X.env)) (genEnv scope (cloFrom X.env.cells scope.names []) C cd builtinsNs X.env) fp pn) elt te)
    (hs : ∀ v, genFold iter X.env v = pure v) (I : Inv X pins σ H s) (h : tGen P neg wi g tt te (own.map (·.2)) σ H Q)
    (hQ : ∀ (Z : Cx) (ga : Addr) (gn n : Nat) (cd : Code) (s5 : Shared), Z.prog = X.prog → Z.w = X.w → s5.heap.IsGen ga gn → s5.heap.NoLimit → s5.gens[gn]? = some (.fresh cd) → AllBare s5.gens →
      (∀ {ps σ' H'} {s' : Shared}, Inv Z ps σ' H' s' → s'.heap.IsGen ga gn) → (∀ {ps σ' H'} {s' : Shared}, Inv Z ps σ' H' s' → Inv X pins σ H' s') →
      (∀ s6, Like s5 s6 → (GenState.fresh cd).Goes (model Z.prog Z.w) X.A.in1.in1 (REx Z Q neg) (YEx Z Q neg) n (.send .none) s6) → Q' (.ref ga) s5) :
    wpAny (model X.prog X.w) X.A (eval (.GeneratorExp elt [⟨tg, iter, ifs, 0⟩] scope pos) X.env) Q' X.xe s := by
  have hfree : ∀ y ∈ scope.names, y.2 = .free → ∃ c, X.env.cells.lookup y.1 = some c := fun y hy e => by
    rcases ok.free y hy e with q | q
    · exact I.ok.has _ (.inl q)
    · exact I.ok.has _ (.inr q)
  refine wpAny_GeneratorExp_make ok.co (closure_ok hfree) ok.cell ok.dot ok.kind (by have := hr.dp; omega) ?_ hs
  refine thn (hi.run pins s σ H _ I h) fun xv s1 hx => thn hx fun itv s2 h2 => ?_
  obtain ⟨it, fp, tn, J, H2, e, I2, T, st2, f2, ⟨ps, hP, hok⟩, hq⟩ := h2
  subst e
  have hPs : s2.heap.get? P = some { cls := .none, data := .fields ps } := I2.hok P _ hP
  have cd2 : PySem.W.CodeHd s2.heap c P := TB.code.keeps fun b u e => I2.bk b u e
  refine ⟨I2.nolimit, ?_⟩
  -- behind the making of the code object
  have cont : ∀ (code : Value) (s4 : Shared) (H4 : Hp), Inv X pins σ H4 s4 → Tabbed P H2 H4 → tn 0 s4.heap → (∀ b ∈ fp, FpOk X pins H4 b) →
      wpAny (model X.prog X.w) X.A (builtinsFor X.env.globals X.env.builtins) (fun bi s₄ => ∀ h', h'.Ns s₄.heap.objs.size (fun y => if y = ".0" then some (.ref it) else none) →
          Heap.SameBut s₄.heap.objs.size (s₄.heap.push { cls := .type "frame", data := .dict #[] }) h' →
          Q' (.ref h'.objs.size) { s₄ with gens := s₄.gens.push (.fresh (.compStart (.GeneratorExp elt [⟨tg, iter, ifs, 0⟩] scope pos) 0 (.ref it) .none (genEnv scope (cloFrom X.env.cells scope.names []) s₄.heap.objs.size code bi X.env))), toks := s₄.toks + 1 + 1 + 1, heap := h'.push { cls := .type "generator", data := .fields #[.int s₄.gens.size 0, .str "<genexpr>" (s₄.toks + 1), .str (X.env.qual ++ "<genexpr>") (s₄.toks + 1 + 1)] } }) X.xe s4 := by
    intro code s4 H4 I4 hT4 st4 f4
    obtain ⟨bm, ob, e1, e2, e3, e4, e5, e6, e7, e8⟩ := TB.bm
    have hbmP : bm ≠ P := e4
    refine wpAny_builtinsFor (m := X.mg) (by rw [I4.ok.glob]; exact I4.mod.glob.keeps I4.bk) e1 e2 (I4.bk _ _ e5) e6 e7 e8 ?_
    intro h' hn' hs'
    generalize hgobj : ({ cls := .type "generator", data := .fields #[.int s4.gens.size 0, .str "<genexpr>" (s4.toks + 1), .str (X.env.qual ++ "<genexpr>") (s4.toks + 1 + 1)] } : Obj) = gobj
    have hsz : h'.objs.size = s4.heap.objs.size + 1 := by rw [hs'.1, Heap.size_push]
    have k5 : ∀ b o, s4.heap.get? b = some o → (h'.push gobj).get? b = some o := fun b o e =>
      Heap.get?_push_of_some _ (hs'.extBut b o (Nat.ne_of_lt (Heap.lt_size e)) (Heap.get?_push_of_some _ e))
    have hfp4 : ∀ b ∈ fp, FpOk X pins H4 b ∧ b < s4.heap.objs.size := fun b hb => by
      obtain ⟨o, e, _⟩ := T.obj _ _ st4 b hb
      exact ⟨f4 b hb, Heap.lt_size e⟩
    have hgo : (h'.push gobj).get? h'.objs.size = some gobj := Heap.get?_push_size _ (by rw [← hgobj]; rfl)
    have hgc : ∀ v, gobj.data ≠ .cell v := fun v z => by
      rw [← hgobj] at z
      cases z
    have hb5 : AllBare (s4.gens.push (.fresh (.compStart (.GeneratorExp elt [⟨tg, iter, ifs, 0⟩] scope pos) 0 (.ref it) .none (genEnv scope (cloFrom X.env.cells scope.names []) s4.heap.objs.size code builtinsNs X.env)))) := I4.bare.push rfl
    have hga : s4.heap.objs.size < h'.objs.size := by omega
    have J0 := g_start (A := X.A.in1.in1.deeper (genEnv scope (cloFrom X.env.cells scope.names []) s4.heap.objs.size code builtinsNs X.env)) (d5 := s4.drawn) (t5 := s4.toks + 1 + 1 + 1) I4 ok hN hr.hd
      (Around.frames_deeper (by exact I4.ok.frames)) hfp4 k5 (hn'.push _) hga hgo hgc hb5
    obtain ⟨W, ⟨m0, w0⟩, hW⟩ := hq H4 hT4
    have isg : ∀ {ps σ' H'} {s' : Shared}, Inv (gCx X s4 H4 (X.A.in1.in1.deeper (genEnv scope (cloFrom X.env.cells scope.names []) s4.heap.objs.size code builtinsNs X.env)) (genEnv scope (cloFrom X.env.cells scope.names []) s4.heap.objs.size code builtinsNs X.env) fp [(h'.objs.size, gobj)]) ps σ' H' s' → s'.heap.IsGen h'.objs.size s4.gens.size := fun {ps σ' H' s'} J => by
      have e := (J.pin (h'.objs.size, gobj) (List.mem_append_left _ List.mem_cons_self)).1
      exact ⟨gobj, _, _, e, by rw [← hgobj], by rw [← hgobj], by rw [← hgobj]⟩
    refine hQ (gCx X s4 H4 (X.A.in1.in1.deeper (genEnv scope (cloFrom X.env.cells scope.names []) s4.heap.objs.size code builtinsNs X.env)) (genEnv scope (cloFrom X.env.cells scope.names []) s4.heap.objs.size code builtinsNs X.env) fp [(h'.objs.size, gobj)]) h'.objs.size s4.gens.size (m0 + 1) _ _ rfl rfl (isg J0) J0.nolimit (Array.getElem?_push_size ..) hb5 isg (fun {ps σ' H' s'} J => ?_) (fun s6 l6 => ⟨rfl, ?_⟩)
    · exact I4.call' (ch := fp) J.os J.base J.hok J.bare fun b hb => ⟨(f4 b hb).2.2.2.1, (f4 b hb).2.1, (f4 b hb).2.2.2.2.1, (f4 b hb).2.2.2.2.2⟩
    · refine seg_first (A := X.A.in1.in1) (m := m0) rfl rfl ok.co rfl rfl (fun p hp b hb => ?_) T (hg _ _ _ _ _ _) (ht _ _ _ _ _ _ (Room.g hr _)) (he _ _ _ _ _ _ (Room.g hr _)) hW (m0 + 1) s6 s6 H4 (Nat.le_refl _) (l6.inv J0) ?_ (fun b hb => (f4 b hb).1) w0
      · rw [List.mem_singleton.mp hp]
        exact Nat.ne_of_gt (Nat.lt_trans (hfp4 b hb).2 hga)
      · have e6 := l6.heap
        rw [e6]
        exact T.keep _ _ _ st4 fun b hb o e => k5 b o e
  cases hf : codeAmong pos ps.toList with
  | some cv =>
    refine wpAny_genexprCode_hit hcode (cd2.code hPs hok) hf ?_
    exact cont cv s2 H2 I2 ⟨⟨ps, hP, hok⟩, fun _ _ => rfl⟩ st2 f2
  | none =>
    refine wpAny_genexprCodeX hcode (cd2.code hPs hok) (cd2.tab hPs) hf fun c' h' tk hx2 hge hlt hco' _ htab' _ => ?_
    obtain ⟨o1, vs1, g1, tf, fl, tg1, inF, tx, tt1, op, _, _, _, _, _, _, _, _, _, htr, _⟩ := hco'
    have I3 := inv_tab (more := #[rawInt pos.line, rawInt pos.col, .ref c']) (g' := s2.gens) (d' := s2.drawn) (t' := tk) I2 hP (fun b o hb e => hx2 b o hb e) htab'.2 I2.bare
    have nP : ∀ b ∈ fp, b ≠ P := fun b hb z => by
      have e := (f2 b hb).1
      rw [z, hP] at e
      cases e
    refine cont (.ref c') _ _ I3 ⟨⟨_, upd_same, htr⟩, fun b hb => upd_ne hb⟩ (T.keep _ _ _ st2 fun b hb o e => hx2 b o (nP b hb) e) fun b hb => ?_
    obtain ⟨z0, z1, z2, z3, z4, z5⟩ := f2 b hb
    exact ⟨by rw [upd_ne (nP b hb)]; exact z0, z1, z2, z3, z4, z5⟩

theorem pe_anyG {c P : Addr} {elt tg iter : Expr} {ifs : List Expr} {scope : Scope} {own : List (Str × Nat)} {pos gpos p : Pos} {wi : TI} {g : TG} {tt : TT} {te : TE} {k : Nat}
    (hr : Room (k + 1) X.A) (hgl : Gl X "any") (hm : X.mg "any" = none) (TB : TabB X.base X.mg c P) (hcode : X.env.code = .ref c) (hN : X.N.Nodup) (ok : GOk X.N X.env.scope scope own) (hi : PI X tg iter wi)
    (hg : ∀ (s : Shared) (H : Hp) (C : Addr) (cd : Value) (fp : List Addr) (pn : List (Addr × Obj)), PG (gCx X s H (X.A.in1.in1.deeper (genEnv scope (cloFrom X.env.cells scope.names []) C cd builtinsNs X.env)) (genEnv scope (cloFrom X.env.cells scope.names []) C cd builtinsNs X.env) fp pn) tg g)
    (ht : ∀ (s : Shared) (H : Hp) (C : Addr) (cd : Value) (fp : List Addr) (pn : List (Addr × Obj)), Room k (X.A.in1.in1.deeper (genEnv scope (cloFrom X.env.cells scope.names []) C cd builtinsNs X.env)) → PTs (gCx X s H (X.A.in1.in1.deeper (genEnv scope (cloFrom X.env.cells scope.names []) C cd builtinsNs X.env)) (genEnv scope (cloFrom X.env.cells scope.names []) C cd builtinsNs X.env) fp pn) ifs tt)
    (he : ∀ (s : Shared) (H : Hp) (C : Addr) (cd : Value) (fp : List Addr) (pn : List (Addr × Obj)), Room k (X.A.in1.in1.deeper (genEnv scope (cloFrom X.env.cells scope.names []) C cd builtinsNs X.env)) → PE (gCx X s H (X.A.in1.in1.deeper (genEnv scope (cloFrom X.env.cells scope.names []) C cd builtinsNs X.env)) (genEnv scope (cloFrom X.env.cells scope.names []) C cd builtinsNs X.env) fp pn) elt te)
    (hs : ∀ v, genFold iter X.env v = pure v := by intro _; rfl)
    (hst : starEach [.GeneratorExp elt [⟨tg, iter, ifs, 0⟩] scope gpos] X.env = (false, eval (.GeneratorExp elt [⟨tg, iter, ifs, 0⟩] scope gpos) X.env) :: starEach [] X.env := by rfl) :
    PE X (.Call (.Name "any" p) [.GeneratorExp elt [⟨tg, iter, ifs, 0⟩] scope gpos] [] pos) (tGen P false wi g tt te (own.map (·.2))) := by
  refine ⟨fun pins s σ H Q I h => ?_⟩
  refine wpAny_Call_Name_kw (ld_blt I hgl hm boot_any ?_)
  refine PyProof.Rows.callWith_builtin1 ?_ hst (by rfl)
  rw [hst]
  show wpAny _ _ (spliced ((false, eval (.GeneratorExp elt [⟨tg, iter, ifs, 0⟩] scope gpos) X.env) :: backTo pos (starEach [] X.env))) _ _ s
  refine Calls.spliced_cons (gen_made hr TB hcode hN ok hi hg ht he hs I h fun Z ga gn n cd s5 hp hw isg lim hgs hb hI back go => ?_)
  refine Calls.spliced_nil ?_
  refine call_function_tree F.kind_any F.plain_any F.entry_any (F.args_any1 _) ?_
  unfold Builtin.«any»
  refine wpAny_bind (m := oneArg "any" _) (wpAny_pure ?_)
  refine wpAny_bind (wpAny_pyIter_gen isg ?_)
  rw [← hp, ← hw] at *
  refine wpAny_pure ⟨plainId_quiet F.plain_any_loop _, ?_⟩
  refine any_turns (Z := Z) (A := X.A) (Q := Q) hr.hd (by have := hr.dp; omega) hI (fun b ps σ' H' s' J q => ?_) n s5 isg lim ⟨_, hgs, go _ (like_setGen hb rfl)⟩
  exact ⟨.bl b, H', back J, rfl, q⟩
theorem pe_allG {c P : Addr} {elt tg iter : Expr} {ifs : List Expr} {scope : Scope} {own : List (Str × Nat)} {pos gpos p : Pos} {wi : TI} {g : TG} {tt : TT} {te : TE} {k : Nat}
    (hr : Room (k + 1) X.A) (hgl : Gl X "all") (hm : X.mg "all" = none) (TB : TabB X.base X.mg c P) (hcode : X.env.code = .ref c) (hN : X.N.Nodup) (ok : GOk X.N X.env.scope scope own) (hi : PI X tg iter wi)
    (hg : ∀ (s : Shared) (H : Hp) (C : Addr) (cd : Value) (fp : List Addr) (pn : List (Addr × Obj)), PG (gCx X s H (X.A.in1.in1.deeper (genEnv scope (cloFrom X.env.cells scope.names []) C cd builtinsNs X.env)) (genEnv scope (cloFrom X.env.cells scope.names []) C cd builtinsNs X.env) fp pn) tg g)
    (ht : ∀ (s : Shared) (H : Hp) (C : Addr) (cd : Value) (fp : List Addr) (pn : List (Addr × Obj)), Room k (X.A.in1.in1.deeper (genEnv scope (cloFrom X.env.cells scope.names []) C cd builtinsNs X.env)) → PTs (gCx X s H (X.A.in1.in1.deeper (genEnv scope (cloFrom X.env.cells scope.names []) C cd builtinsNs X.env)) (genEnv scope (cloFrom X.env.cells scope.names []) C cd builtinsNs X.env) fp pn) ifs tt)
    (he : ∀ (s : Shared) (H : Hp) (C : Addr) (cd : Value) (fp : List Addr) (pn : List (Addr × Obj)), Room k (X.A.in1.in1.deeper (genEnv scope (cloFrom X.env.cells scope.names []) C cd builtinsNs X.env)) → PE (gCx X s H (X.A.in1.in1.deeper (genEnv scope (cloFrom X.env.cells scope.names []) C cd builtinsNs X.env)) (genEnv scope (cloFrom X.env.cells scope.names []) C cd builtinsNs X.env) fp pn) elt te)
    (hs : ∀ v, genFold iter X.env v = pure v := by intro _; rfl)
    (hst : starEach [.GeneratorExp elt [⟨tg, iter, ifs, 0⟩] scope gpos] X.env = (false, eval (.GeneratorExp elt [⟨tg, iter, ifs, 0⟩] scope gpos) X.env) :: starEach [] X.env := by rfl) :
    PE X (.Call (.Name "all" p) [.GeneratorExp elt [⟨tg, iter, ifs, 0⟩] scope gpos] [] pos) (tGen P true wi g tt te (own.map (·.2))) := by
  refine ⟨fun pins s σ H Q I h => ?_⟩
  refine wpAny_Call_Name_kw (ld_blt I hgl hm boot_all ?_)
  refine PyProof.Rows.callWith_builtin1 ?_ hst (by rfl)
  rw [hst]
  show wpAny _ _ (spliced ((false, eval (.GeneratorExp elt [⟨tg, iter, ifs, 0⟩] scope gpos) X.env) :: backTo pos (starEach [] X.env))) _ _ s
  refine Calls.spliced_cons (gen_made hr TB hcode hN ok hi hg ht he hs I h fun Z ga gn n cd s5 hp hw isg lim hgs hb hI back go => ?_)
  refine Calls.spliced_nil ?_
  refine call_function_tree F.kind_all F.plain_all F.entry_all (F.args_all1 _) ?_
  unfold Builtin.«all»
  refine wpAny_bind (m := oneArg "all" _) (wpAny_pure ?_)
  refine wpAny_bind (wpAny_pyIter_gen isg ?_)
  rw [← hp, ← hw] at *
  refine wpAny_pure ⟨plainId_quiet F.plain_all_loop _, ?_⟩
  refine all_turns (Z := Z) (A := X.A) (Q := Q) hr.hd (by have := hr.dp; omega) hI (fun b ps σ' H' s' J q => ?_) n s5 isg lim ⟨_, hgs, go _ (like_setGen hb rfl)⟩
  exact ⟨.bl b, H', back J, rfl, q⟩
end
end Gx
end Text_Ga
section Text_Gb
set_option Elab.async false
set_option linter.all false
set_option maxRecDepth 100000
set_option maxHeartbeats 4000000
namespace Gx
open PySem PySem.Spec PyProof.Rows L2 GxR
/-- n turns, with what holds ahead of each -/
theorem turns_of {J : It} {g : TG} {te : TE} {vs : List Nat} {σ0 : L2.St} {Q : VK} {neg : Bool} {H : Hp} (n : Nat) (Pv : Nat → Hp → Prop) (h0 : Pv 0 H) (hs : ∀ H, Pv n H → J.stop n H ∧ Q (.bl neg) H)
    (hg : ∀ i H, i < n → Pv i H → J.go i H ∧ ∀ x H', J.yld i H x H' → g x σ0 H' fun σ2 H2 => wipe σ2 vs = σ0 ∧ te σ2 H2 fun y H4 => ∃ c, y = .bl c ∧ (if c = neg then Pv (i + 1) H4 else Q (.bl (!neg)) H4)) :
    ∃ W : Nat → Nat → Hp → Prop, (∃ m, W 0 m H) ∧ TurnG J g tYes te vs σ0 Q neg W := by
  refine ⟨fun i m H => i + m = n ∧ Pv i H, ⟨n, Nat.zero_add n, h0⟩, fun i m H w => ?_⟩
  obtain ⟨e, p⟩ := w
  rcases Nat.lt_or_ge i n with hi | hi
  · obtain ⟨a, b⟩ := hg i H hi p
    refine .inr ⟨a, Pv (i + 1), fun H' p' => ⟨m - 1, by omega, by omega, p'⟩, fun x H' y => ?_⟩
    have q := b x H' y
    show g x σ0 H' fun σ2 H2 => wipe σ2 vs = σ0 ∧ (if true = true then te σ2 H2 fun y H4 => ∃ c, y = .bl c ∧ (if c = neg then Pv (i + 1) H4 else Q (.bl (!neg)) H4) else Pv (i + 1) H2)
    simp only [if_true]
    exact q
  · have e2 : i = n := by omega
    subst e2
    exact .inl (hs H p)
theorem wipe_one {σ : L2.St} {i : Nat} {v : Option V} : wipe ((wipe σ [i]).set i v) [i] = wipe σ [i] := by
  show ((σ.set i none).set i v).set i none = σ.set i none
  rw [List.set_set, List.set_set]
/-- any over a text's signs, the test a Bool function of the sign -/
theorem any_text {z : Str} {i : Nat} {te : TE} {σ : L2.St} {Q : VK} {H : Hp} (pb : Nat → Bool) (hte : ∀ c (Q' : VK), Q' (.bl (pb c)) H → te ((wipe σ [i]).set i (some (.str ⟨#[c]⟩))) H Q') (h : Q (.bl (z.cps.toList.any pb)) H) :
    ∃ W : Nat → Nat → Hp → Prop, (∃ m, W 0 m H) ∧ TurnG (Its z) (gName i) tYes te [i] (wipe σ [i]) Q false W := by
  refine turns_of z.cps.size (fun j H' => H' = H ∧ ∀ k c, k < j → z.cps[k]? = some c → pb c = false) ⟨rfl, fun k c hk => absurd hk (Nat.not_lt_zero k)⟩ (fun H' p => ⟨Nat.le_refl _, ?_⟩) fun j H' hj p => ⟨hj, fun x H2 y => ?_⟩
  · obtain ⟨rfl, p⟩ := p
    have e : z.cps.toList.any pb = false := by
      rw [List.any_eq_false]
      intro c hc
      obtain ⟨k, hk, e⟩ := List.getElem_of_mem hc
      have hk' : k < z.cps.size := by simpa using hk
      rw [p k c hk' (by rw [Array.getElem?_eq_getElem hk']; simpa using e)]
      decide
    rw [e] at h
    exact h
  · obtain ⟨rfl, p⟩ := p
    obtain ⟨rfl, c, hc, rfl⟩ := y
    refine ⟨wipe_one, hte c _ ⟨pb c, rfl, ?_⟩⟩
    cases hb : pb c with
    | false =>
      rw [if_pos rfl]
      refine ⟨rfl, fun k d hk hd => ?_⟩
      rcases Nat.lt_or_ge k j with q | q
      · exact p k d q hd
      · have e : k = j := by omega
        rw [e, hc] at hd
        cases hd
        exact hb
    | true =>
      have e : z.cps.toList.any pb = true := List.any_eq_true.mpr ⟨c, by
        have hl := (Array.getElem?_eq_some_iff.mp hc)
        obtain ⟨hl, e⟩ := hl
        rw [← e]
        simp, hb⟩
      rw [e] at h
      exact h
/-- all over a text's signs -/
theorem all_text {z : Str} {i : Nat} {te : TE} {σ : L2.St} {Q : VK} {H : Hp} (pb : Nat → Bool) (hte : ∀ c (Q' : VK), Q' (.bl (pb c)) H → te ((wipe σ [i]).set i (some (.str ⟨#[c]⟩))) H Q') (h : Q (.bl (z.cps.toList.all pb)) H) :
    ∃ W : Nat → Nat → Hp → Prop, (∃ m, W 0 m H) ∧ TurnG (Its z) (gName i) tYes te [i] (wipe σ [i]) Q true W := by
  refine turns_of z.cps.size (fun j H' => H' = H ∧ ∀ k c, k < j → z.cps[k]? = some c → pb c = true) ⟨rfl, fun k c hk => absurd hk (Nat.not_lt_zero k)⟩ (fun H' p => ⟨Nat.le_refl _, ?_⟩) fun j H' hj p => ⟨hj, fun x H2 y => ?_⟩
  · obtain ⟨rfl, p⟩ := p
    have e : z.cps.toList.all pb = true := by
      rw [List.all_eq_true]
      intro c hc
      obtain ⟨k, hk, e⟩ := List.getElem_of_mem hc
      have hk' : k < z.cps.size := by simpa using hk
      exact p k c hk' (by rw [Array.getElem?_eq_getElem hk']; simpa using e)
    rw [e] at h
    exact h
  · obtain ⟨rfl, p⟩ := p
    obtain ⟨rfl, c, hc, rfl⟩ := y
    refine ⟨wipe_one, hte c _ ⟨pb c, rfl, ?_⟩⟩
    cases hb : pb c with
    | true =>
      rw [if_pos rfl]
      refine ⟨rfl, fun k d hk hd => ?_⟩
      rcases Nat.lt_or_ge k j with q | q
      · exact p k d q hd
      · have e : k = j := by omega
        rw [e, hc] at hd
        cases hd
        exact hb
    | false =>
      have e : z.cps.toList.all pb = false := by
        rw [← Bool.not_eq_true, List.all_eq_true]
        intro q
        have hl := (Array.getElem?_eq_some_iff.mp hc)
        obtain ⟨hl, e⟩ := hl
        have := q c (by rw [← e]; simp)
        rw [hb] at this
        cases this
      rw [e] at h
      exact h
end Gx
namespace Gx
open PySem PySem.Spec PyProof.Rows L2 GxR
/-- a for's n turns -/
theorem for_turns {J : It} {g : TG} {tb : TS} {D : Ends} {σ : L2.St} {H : Hp} (n : Nat) (Pv : Nat → L2.St → Hp → Prop) (h0 : Pv 0 σ H)
    (hs : ∀ i σ H, i < n → Pv i σ H → J.go i H ∧ ∀ x H', J.yld i H x H' → g x σ H' fun σ2 H2 => tb { D with nx := Pv (i + 1), ct := Pv (i + 1), bk := D.nx } σ2 H2) (hd : ∀ σ H, Pv n σ H → J.stop n H ∧ D.nx σ H) :
    ∃ W : Nat → Nat → L2.St → Hp → Prop, (∃ m, W 0 m σ H) ∧ ∀ i m σ H, W i m σ H →
      (J.stop i H ∧ D.nx σ H) ∨ (J.go i H ∧ ∃ N : L2.St → Hp → Prop, (∀ σ' H', N σ' H' → ∃ m', m' < m ∧ W (i + 1) m' σ' H') ∧ ∀ x H', J.yld i H x H' → g x σ H' fun σ2 H2 => tb { D with nx := N, ct := N, bk := D.nx } σ2 H2) := by
  refine ⟨fun i m σ H => i + m = n ∧ Pv i σ H, ⟨n, Nat.zero_add n, h0⟩, fun i m σ H w => ?_⟩
  obtain ⟨e, p⟩ := w
  rcases Nat.lt_or_ge i n with hi | hi
  · obtain ⟨a, b⟩ := hs i σ H hi p
    exact .inr ⟨a, Pv (i + 1), fun σ' H' p' => ⟨m - 1, by omega, by omega, p'⟩, b⟩
  · have e2 : i = n := by omega
    subst e2
    exact .inl (hd σ H p)
/-- a list comprehension's n turns -/
theorem lc_turns {J : It} {g : TG} {tt : TT} {te : TE} {vs : List Nat} {σ : L2.St} {Q : VK} {H1 : Hp} {D : Addr} (n : Nat) (Pv : Nat → Hp → Prop) (h0 : Pv 0 (upd H1 D (.lst []))) (hs : ∀ H, Pv n H → J.stop n H ∧ Q (.ref D) H)
    (ht : ∀ i H, i < n → Pv i H → J.go i H ∧ ∀ x H', J.yld i H x H' → g x (wipe σ vs) H' fun σ2 H2 => wipe σ2 vs = wipe σ vs ∧ tt σ2 H2 fun b H3 =>
      if b = true then te σ2 H3 fun y H4 => ∃ acc, H4 D = some (.lst acc) ∧ acc.length < sizeLine ∧ Pv (i + 1) (upd H4 D (.lst (acc ++ [y]))) else Pv (i + 1) H3) :
    ∃ W : Nat → Nat → Hp → Prop, (∃ m, W 0 m (upd H1 D (.lst []))) ∧ ∀ i m H, W i m H →
      (J.stop i H ∧ Q (.ref D) H) ∨ (J.go i H ∧ ∃ Nx : Hp → Prop, (∀ H', Nx H' → ∃ m', m' < m ∧ W (i + 1) m' H') ∧ ∀ x H', J.yld i H x H' → g x (wipe σ vs) H' fun σ2 H2 => wipe σ2 vs = wipe σ vs ∧ tt σ2 H2 fun b H3 =>
        if b = true then te σ2 H3 fun y H4 => ∃ acc, H4 D = some (.lst acc) ∧ acc.length < sizeLine ∧ Nx (upd H4 D (.lst (acc ++ [y]))) else Nx H3) := by
  refine ⟨fun i m H => i + m = n ∧ Pv i H, ⟨n, Nat.zero_add n, h0⟩, fun i m H w => ?_⟩
  obtain ⟨e, p⟩ := w
  rcases Nat.lt_or_ge i n with hi | hi
  · obtain ⟨a, b⟩ := ht i H hi p
    exact .inr ⟨a, Pv (i + 1), fun H' p' => ⟨m - 1, by omega, by omega, p'⟩, b⟩
  · have e2 : i = n := by omega
    subst e2
    exact .inl (hs H p)
end Gx
end Text_Gb
section Text_Gc
set_option Elab.async false
set_option linter.all false
set_option maxRecDepth 100000
set_option maxHeartbeats 4000000
namespace GxR
open PySem PySem.Spec PyProof.Rows L2 Gx
theorem take_succ_mem {α : Type} {xs : List α} {j : Nat} {x y : α} (h : xs[j]? = some x) (m : y ∈ xs.take (j + 1)) : y ∈ xs.take j ∨ y = x := by
  rw [List.take_add_one, h] at m
  rcases List.mem_append.mp m with m | m
  · exact .inl m
  · exact .inr (by simpa using m)
/-- any over a list of texts, the test a Bool function of the text; what holds of the heap meanwhile: Pv -/
theorem any_texts {K : PySem.W.Frag} {a : Addr} {xs : List Str} {i : Nat} {te : TE} {σ : L2.St} {Q : VK} {H : Hp} (Pv : Hp → Prop) (pb : Str → Bool) (hP : Pv H) (hl : ∀ G, Pv G → SqL K G a (xs.map V.str))
    (hte : ∀ x ∈ xs, ∀ (G : Hp) (Q' : VK), Pv G → (∀ G', Pv G' → Q' (.bl (pb x)) G') → te ((wipe σ [i]).set i (some (.str x))) G Q') (h : ∀ G, Pv G → Q (.bl (xs.any pb)) G) :
    ∃ W : Nat → Nat → Hp → Prop, (∃ m, W 0 m H) ∧ TurnG (Itl K a) (gName i) tYes te [i] (wipe σ [i]) Q false W := by
  refine turns_of xs.length (fun j G => Pv G ∧ ∀ x ∈ xs.take j, pb x = false) ⟨hP, fun x hx => by simp at hx⟩ (fun G p => ⟨⟨_, hl G p.1, by simp⟩, ?_⟩) fun j G hj p => ⟨⟨_, .str xs[j], hl G p.1, by simp [hj]⟩, fun x G2 y => ?_⟩
  · have e : xs.any pb = false := by
      rw [List.any_eq_false]
      intro c hc
      have := p.2 c (by rw [List.take_length]; exact hc)
      simp [this]
    have q := h G p.1
    rw [e] at q
    exact q
  · obtain ⟨rfl, y⟩ := y
    have y' := y _ (hl _ p.1)
    have ej : xs[j]? = some xs[j] := by simp [hj]
    rw [List.getElem?_map, ej] at y'
    obtain rfl := (Option.some.inj y').symm
    refine ⟨wipe_one, hte _ (List.getElem_mem hj) _ _ p.1 fun G' p' => ⟨_, rfl, ?_⟩⟩
    by_cases hb : pb xs[j] = true
    · rw [hb]
      have e : xs.any pb = true := List.any_eq_true.mpr ⟨_, List.getElem_mem hj, hb⟩
      have q := h G' p'
      rw [e] at q
      exact q
    · have hb' : pb xs[j] = false := by simpa using hb
      rw [hb']
      refine ⟨p', fun x hx => ?_⟩
      rcases take_succ_mem ej hx with m | m
      · exact p.2 x m
      · rw [m]; exact hb'
/-- a dict comprehension over a list -/
theorem dc_list {K : PySem.W.Frag} {a : Addr} {xs : List V} {g : TG} {tt : TT} {tk tv : TE} {vs : List Nat} {σ : L2.St} {H1 : Hp} {D : Addr} {Qd : Hp → Prop} (Pv : Nat → Hp → Prop) (h0 : Pv 0 (upd H1 D (.dK []))) (hl : ∀ i H, i ≤ xs.length → Pv i H → SqL K H a xs)
    (hs : ∀ i x H, xs[i]? = some x → Pv i H → g x (wipe σ vs) H fun σ2 H2 => wipe σ2 vs = wipe σ vs ∧ tt σ2 H2 fun b H3 =>
      if b = true then tk σ2 H3 fun y H4 => tv σ2 H4 fun z H5 => ∃ kvs k, y = kV k ∧ H5 D = some (.dK kvs) ∧ kvs.length < sizeLine ∧ Pv (i + 1) (upd H5 D (.dK (putK kvs k z))) else Pv (i + 1) H3) (hd : ∀ H, Pv xs.length H → Qd H) :
    ∃ W : Nat → Nat → Hp → Prop, (∃ m, W 0 m (upd H1 D (.dK []))) ∧ ∀ i m H, W i m H →
      ((Itl K a).stop i H ∧ Qd H) ∨ ((Itl K a).go i H ∧ ∃ Nx : Hp → Prop, (∀ H', Nx H' → ∃ m', m' < m ∧ W (i + 1) m' H') ∧ ∀ x H', (Itl K a).yld i H x H' → g x (wipe σ vs) H' fun σ2 H2 => wipe σ2 vs = wipe σ vs ∧ tt σ2 H2 fun b H3 =>
        if b = true then tk σ2 H3 fun y H4 => tv σ2 H4 fun z H5 => ∃ kvs k, y = kV k ∧ H5 D = some (.dK kvs) ∧ kvs.length < sizeLine ∧ Nx (upd H5 D (.dK (putK kvs k z))) else Nx H3) := by
  refine ⟨fun i m H => i + m = xs.length ∧ Pv i H, ⟨xs.length, Nat.zero_add _, h0⟩, fun i m H w => ?_⟩
  obtain ⟨e, p⟩ := w
  have q := hl i H (by omega) p
  rcases Nat.lt_or_ge i xs.length with hi | hi
  · refine .inr ⟨⟨xs, xs[i], q, by simp [hi]⟩, Pv (i + 1), fun H' p' => ⟨m - 1, by omega, by omega, p'⟩, fun x H' y => ?_⟩
    obtain ⟨e2, y⟩ := y
    subst e2
    exact hs i x _ (y xs q) p
  · have e2 : i = xs.length := by omega
    subst e2
    exact .inl ⟨⟨xs, q, Nat.le_refl _⟩, hd H p⟩
end GxR
end Text_Gc
section Text_Gl
set_option Elab.async false
set_option linter.all false
set_option maxRecDepth 100000
set_option maxHeartbeats 4000000
/-! LamY: lambdas without parameters and captured names, as values that stand in lists, and called by the name of a variable. -/
namespace LamY
open PySem PySem.Spec PyProof.Rows L2
/-- what stands at f is ob -/
def LamO (f : Addr) (ob : Obj) : HO := .ext fun h => h.get? f = some ob
theorem lamO_ok {P : Program} {w : World} {H : Hp} {h : Heap} {f : Addr} {ob : Obj} (e : h.get? f = some ob) : ObjOk P w H h f (LamO f ob) := ⟨e, ⟨_, e⟩, fun _ _ e1 k => k _ e1⟩
/-- at f stands a lambda of this text; its code object is known -/
def LamAt (H : Hp) (f : Addr) (q : Str) (params : Arguments) (body : Expr) (scope : Scope) : Prop :=
  ∃ pm c' ctv, H f = some (LamO f (PySem.W.kla_obj "<lambda>" q params body scope [] pm c' ctv)) ∧ H c' = some (LamX.CodeO c' q)
theorem LamAt.ext {H H' : Hp} {f : Addr} {q : Str} {params : Arguments} {body : Expr} {scope : Scope} (l : LamAt H f q params body scope) (e : LamX.ExtN H H') : LamAt H' f q params body scope := by
  obtain ⟨pm, c', ctv, h1, h2⟩ := l
  exact ⟨pm, c', ctv, e _ _ h1 (fun _ z => by unfold LamO at z; cases z), e _ _ h2 LamX.codeO_ne⟩
/-- all but the table at P stays -/
def But (P : Addr) (H H' : Hp) : Prop := ∀ b o, b ≠ P → H b = some o → H' b = some o
/-- a lambda is made -/
def tLamb (P : Addr) (q : Str) (params : Arguments) (body : Expr) (scope : Scope) : TE := fun _ H Q => LamX.TabS H P q ∧ ∀ H1 f, But P H H1 → LamX.TabS H1 P q → LamAt H1 f q params body scope → Q (.ref f) H1
section
variable {X : Cx} {pins : List (Addr × Obj)} {σ : L2.St} {H : Hp} {s : Shared}
theorem pe_lambda {c P : Addr} {params : Arguments} {body : Expr} {scope : Scope} {pos : Pos} (TB : LamX.TabB X.base X.mg c P) (hcode : X.env.code = .ref c) (hdef : defaultsOf params X.env = ([], []))
    (hfree : ∀ y ∈ scope.names, y.2 ≠ .free) (hcl : cloFrom X.env.cells scope.names [] = []) : PE X (.Lambda params body scope pos) (tLamb P (X.env.qual ++ "<lambda>") params body scope) := by
  refine ⟨fun pins s σ H Q I h => ?_⟩
  obtain ⟨hT, h⟩ := h
  obtain ⟨ps, hP, ht, ha⟩ := hT
  refine PySem.W.kla_eval hdef ?_
  have bP := TB.bm.keeps I.bk
  have tabP : s.heap.get? P = some { cls := .none, data := .fields ps } := I.hok P _ hP
  have hclo : ∀ y ∈ scope.names, y.2 = .free → ∃ c, X.env.cells.lookup y.1 = some c := fun y hy e => absurd e (hfree y hy)
  cases hc : codeAmong pos ps.toList with
  | none =>
    refine PySem.W.kla_makeFunction (mg := X.mg) (c := c) (P := P) (ps := ps) (closure_ok hclo) I.ok.glob (I.mod.glob.keeps I.bk) hcode (TB.code.keeps I.bk) tabP ht hc TB.gP bP ?_
    intro c' ctv h' tk hx hge hlt hrec htb
    obtain ⟨c2, oc, vs, t, e2, hoc, hd, hv⟩ := hrec
    cases e2
    have nC : H c' = none := I.hok.fresh hge
    have I1 := LamX.inv_table (t' := tk) (more := #[rawInt pos.line, rawInt pos.col, .ref c']) (h' := h') I hP (fun b o hb e => hx b o hb e) htb hge ⟨oc, vs, t, hoc, hd, hv⟩
    have fr1 := I1.hok.fresh (Nat.le_refl h'.objs.size)
    have I2 := I1.laid (a := h'.objs.size) (o := LamO h'.objs.size (PySem.W.kla_obj "<lambda>" (X.env.qual ++ "<lambda>") params body scope [] ((X.mg "__name__").getD .none) c' ctv))
      (h' := h'.push (PySem.W.kla_obj "<lambda>" (X.env.qual ++ "<lambda>") params body scope [] ((X.mg "__name__").getD .none) c' ctv)) (t' := tk) (fun b u e => Heap.get?_push_of_some _ e) (Nat.le_refl _) (lamO_ok (Heap.get?_push_size _ rfl))
    have but1 : But P H (upd (upd H P (.tbl (ps ++ #[rawInt pos.line, rawInt pos.col, .ref c']))) c' (LamX.CodeO c' (X.env.qual ++ "<lambda>"))) := fun b o hb e => by
      rw [upd_ne (ne_of_none e nC), upd_ne hb]
      exact e
    have up : ∀ b o, (upd (upd H P (.tbl (ps ++ #[rawInt pos.line, rawInt pos.col, .ref c']))) c' (LamX.CodeO c' (X.env.qual ++ "<lambda>"))) b = some o → ∀ u, upd (upd (upd H P (.tbl (ps ++ #[rawInt pos.line, rawInt pos.col, .ref c']))) c' (LamX.CodeO c' (X.env.qual ++ "<lambda>"))) h'.objs.size u b = some o := fun b o e u => by
      rw [upd_ne (ne_of_none e fr1)]
      exact e
    have eL : (ps ++ #[rawInt pos.line, rawInt pos.col, .ref c']).toList = ps.toList ++ [rawInt pos.line, rawInt pos.col, .ref c'] := by simp
    have nPc : P ≠ c' := ne_of_none hP nC
    rw [hcl]
    refine h _ _ (fun b o hb e => up b o (but1 b o hb e) _) ⟨_, up _ _ (by rw [upd_ne nPc, upd_same]) _, by rw [eL]; exact PySem.TriplesOk_snoc _ _ _ _ ht, fun p' cv hcv => ?_⟩ ⟨_, c', ctv, upd_same, up _ _ upd_same _⟩ |> fun q => ⟨.ref h'.objs.size, _, I2, rfl, q⟩
    rw [eL] at hcv
    rcases LamX.among_app _ ht hcv with z | z
    · obtain ⟨c0, e1, e2⟩ := ha p' cv z
      exact ⟨c0, e1, up _ _ (but1 _ _ (fun q => by rw [q, hP] at e2; exact LamX.codeO_ne _ (Option.some.inj e2).symm) e2) _⟩
    · exact ⟨c', z, up _ _ upd_same _⟩
  | some cv =>
    obtain ⟨c', e, hco⟩ := ha pos cv hc
    subst e
    refine PySem.W.kla_makeFunctionHit (mg := X.mg) (c := c) (P := P) (ps := ps) (closure_ok hclo) I.ok.glob (I.mod.glob.keeps I.bk) hcode (TB.code.keeps I.bk) tabP ht hc bP ?_
    intro ctv h' tk hx hsz
    have I2 := I.laid (a := h'.objs.size) (o := LamO h'.objs.size (PySem.W.kla_obj "<lambda>" (X.env.qual ++ "<lambda>") params body scope [] ((X.mg "__name__").getD .none) c' ctv))
      (h' := h'.push (PySem.W.kla_obj "<lambda>" (X.env.qual ++ "<lambda>") params body scope [] ((X.mg "__name__").getD .none) c' ctv)) (t' := tk) (fun b u e => Heap.get?_push_of_some _ (hx b u e)) hsz (lamO_ok (Heap.get?_push_size _ rfl))
    have fr1 := I.hok.fresh hsz
    have up : ∀ b o, H b = some o → ∀ u, upd H h'.objs.size u b = some o := fun b o e u => by
      rw [upd_ne (ne_of_none e fr1)]
      exact e
    rw [hcl]
    refine ⟨.ref h'.objs.size, _, I2, rfl, h _ _ (fun b o _ e => up b o e _) ⟨ps, up _ _ hP _, ht, fun p' cv hcv => ?_⟩ ⟨_, c', ctv, upd_same, up _ _ hco _⟩⟩
    obtain ⟨c0, e1, e2⟩ := ha p' cv hcv
    exact ⟨c0, e1, up _ _ e2 _⟩
/-- some reading of several -/
theorem pe_some {ι : Type} {e : Expr} {t : ι → TE} (h : ∀ j, PE X e (t j)) : PE X e (fun σ H Q => ∃ j, t j σ H Q) := ⟨fun pins s σ H Q I ⟨j, q⟩ => (h j).run pins s σ H Q I q⟩
/-- x(), x a name of ours that holds a lambda -/
theorem pe_callL {CX : CXT} {i k : Nat} {a q : Str} {params : Arguments} {body : Expr} {scope : Scope} {tb : XK → TE} {E : L2.St → XK} {p1 p2 : Pos} (hN : X.N[i]? = some a) (hv : Vis X.env.scope a) (hr : Room (k + 1) X.A) (S : FnScope [] [] scope)
    (hbind : ∀ pm cv ctv, bindArgs (PySem.W.kla_fn "<lambda>" q params body scope [] pm cv ctv) ⟨[], []⟩ = pure []) (hx : ∀ σ, PassesAt CX X σ (E σ))
    (hbody : ∀ (f c' : Addr) (A : Around) (outer : List Env) (s : Shared) (H : Hp) (E : XK), Room k (A.deeper (envOfC q scope s.heap.objs.size f (.ref c'))) → PE (cxOf CX X.prog X.w X.K X.mg X.base [] q scope f (.ref c') A outer s H E) body (tb E))
    (hd : (a == ("__debug__" : Str)) = false := by decide) (hcd : (a == ("__classdict__" : Str)) = false := by decide) :
    PE X (.Call (.Name a p1) [] [] p2) (fun σ H Q => ∃ f, σ[i]? = some (some (.ref f)) ∧ LamAt H f q params body scope ∧ tb (E σ) [] H Q) := by
  refine ⟨fun pins s σ H Q I h => ?_⟩
  obtain ⟨f, hs, ⟨pm, c', ctv, hf, hco⟩, ht⟩ := h
  refine wpAny_Call_Name_kw (thn ((pe_var (pos := p1) (i := i) hN hv hd hcd).run pins s σ H (fun v H1 => v = .ref f ∧ H1 = H) I ⟨.ref f, hs, rfl, rfl⟩) fun u s1 ⟨v, H1, I1, r1, q1⟩ => ?_)
  obtain ⟨ev, eH⟩ := q1
  subst ev
  rw [eH] at I1
  obtain rfl : u = Value.ref f := r1
  have of1 : s1.heap.get? f = some (PySem.W.kla_obj "<lambda>" q params body scope [] pm c' ctv) := (I1.hok f _ hf).1
  obtain ⟨⟨oc, vs, t, hoc, hdc, hvc⟩, _, _⟩ := I1.hok c' _ hco
  refine PySem.W.callWith_F0 ⟨_, _, _, _, of1⟩ ?_
  have e0 := I1.env0
  have lim : s1.heap.NoLimit := I1.nolimit
  have rc : codeAny (model X.prog X.w) X.A (.call (.ref f) ⟨[], []⟩) (CR CX X.stack X.prog X.w H s1 Q (E σ)) s1 := by
    refine PySem.W.kla_callFunE hr.depth of1 rfl S.co S.gen rfl ⟨c', oc, vs, t, rfl, hoc, hdc, hvc⟩ ?_
    rw [hbind]
    refine wpAny_pure (wpAny_newFunctionEnv_cells S.kind (fun y hy => absurd hy (by simp)) fun env he s2 x => ?_)
    subst he
    refine ⟨lim.keeps x.toInCall.keep, PySem.W.kla_codeExpr ?_⟩
    have J : Inv (cxOf CX X.prog X.w X.K X.mg X.base [] q scope f (.ref c') X.A X.stack s1 H (E σ)) [] (L2.start [] []) H s2 := inv_start (us := []) (ps := []) S hr.hd e0 rfl .nil x
    refine wpAny_mono ((hbody f c' X.A X.stack s1 H (E σ) (hr.deeper _)).run [] s2 _ H Q J ht) (fun v s' hq => ?_) fun e s' hq => hq
    obtain ⟨w', H', J', rv, q⟩ := hq
    exact ⟨w', H', J'.os, J'.bare, J'.base, J'.hok, rv, q⟩
  refine wpAny_call (codeAny_mono rc fun r s' hq => ?_)
  cases r with
  | error e => exact hx σ pins H s1 e s' I1 hq
  | ok fl =>
    cases fl with
    | ret u => exact I1.after hq
    | next => exact False.elim hq
    | brk => exact False.elim hq
    | cont => exact False.elim hq
end
end LamY
end Text_Gl
section Text_K1b
set_option Elab.async false
set_option linter.all false
set_option maxRecDepth 100000
set_option maxHeartbeats 4000000
/-! The first law's defs, by the hand layer. -/
namespace K1
open PySem PySem.Spec PyProof.Rows L2 Gx GxR
def top (i : Nat) : Stmt := PySem.Challenge.pw_repostack_k01_digests_of_texts.main.body.getD i (.Pass ⟨0, 0, 0, 0⟩)
/-- the text of SIGNS, of LETTERS, as the program writes them -/
def strOf : Stmt → Str
  | .Assign _ (.Constant (.str z) _ _) _ => z
  | _ => Str.empty
def sigT : Str := strOf (top 4)
def letT : Str := strOf (top 5)
theorem sig_len : sigT.cps.size = 92 := by decide +kernel
theorem let_len : letT.cps.size = 26 := by decide +kernel

abbrev sCheck : Stmt := top 9
abbrev sNumber : Stmt := top 10
abbrev sDigest : Stmt := top 11
abbrev sIsName : Stmt := top 12
abbrev sShort : Stmt := top 13
abbrev sSum : Stmt := top 14
abbrev sDice : Stmt := top 16
abbrev sRoll : Stmt := top 17
abbrev sRounds : Stmt := top 18
abbrev sTold : Stmt := top 19
abbrev sLNum : Stmt := top 20
abbrev sLDig : Stmt := top 21
abbrev sPlain : Stmt := top 22
abbrev sLaw : Stmt := top 23

/-- a def whose code object stands at c -/
structure FunC (K : PySem.W.Frag) (x qual : Str) (st : Stmt) (f c : Addr) (fd : FuncData) : Prop where
  ex : ∃ (oc : Value) (od : Option Addr) (kV doc pm : Value) (an : Option Addr) (ct : Value) (osl : Array (Option Value)),
    fd = PySem.W.fnOf x qual (defArgs st) (defBody st) (defScope st) .none kV doc pm an (.ref c) ct ∧ K.lookup f = some ⟨oc, od, .func fd, osl⟩ ∧ PySem.W.codeIn K (.ref c) qual = true
  kp : PySem.W.keepIn K (.ref f) = true
section
variable {P : Program} {w : World} {K : PySem.W.Frag} {mg : Str → Option Value} {base : Heap}
theorem FunC.okX {x qual : Str} {st : Stmt} {f c : Addr} {fd : FuncData} {N ps : List Str} {k : Nat} {sp : Sp} (F : FunC K x qual st f c fd) (S : FnScope N ps (defScope st)) (len : ∀ vs H Q E, sp vs H Q E → vs.length = ps.length)
    (hbody : ∀ (A : Around) (outer : List Env) (s : Shared) (H : Hp) (vs : List V) (Q : VK) (E : XK), Room k (A.deeper (envOfC qual (defScope st) s.heap.objs.size f (.ref c))) → sp vs H Q E →
      ∃ t, PSs (cxOf (L2.CX P w) P w K mg base N qual (defScope st) f (.ref c) A outer s H E) (defBody st) t ∧ t { nx := fun _ H' => Q .non H', rt := Q } (start N vs) H) : FnOk P w K mg base (L2.CX P w) (k + 1) f fd ps sp := by
  obtain ⟨oc, od, kV, doc, pm, an, ct, osl, rfl, lk, hcd⟩ := F.ex
  exact fn_of lk hcd S len fun A outer s H vs Q E hr hsp => hbody A outer s H vs Q E hr hsp
theorem FunC.ok {x qual : Str} {st : Stmt} {f c : Addr} {fd : FuncData} {N ps : List Str} {k : Nat} {sp : Sp} (F : FunC K x qual st f c fd) (S : FnScope N ps (defScope st)) (len : ∀ vs H Q E, sp vs H Q E → vs.length = ps.length)
    (hbody : ∀ (A : Around) (outer : List Env) (s : Shared) (H : Hp) (vs : List V) (Q : VK) (E : XK), Room k (A.deeper (envOfC qual (defScope st) s.heap.objs.size f (.ref c))) → sp vs H Q E →
      ∃ t, PSs (cxOf CX0 P w K mg base N qual (defScope st) f (.ref c) A outer s H E).nox (defBody st) t ∧ t { nx := fun _ H' => Q .non H', rt := Q } (start N vs) H) : FnOk P w K mg base CX0 (k + 1) f fd ps sp := by
  obtain ⟨oc, od, kV, doc, pm, an, ct, osl, rfl, lk, hcd⟩ := F.ex
  refine fn_of lk hcd S len fun A outer s H vs Q E hr hsp => ?_
  obtain ⟨t, h, q⟩ := hbody A outer s H vs Q E hr hsp
  exact ⟨t, h.nox, q⟩
theorem FunC.fn {x qual : Str} {st : Stmt} {f c : Addr} {fd : FuncData} (F : FunC K x qual st f c fd) : Fun K x qual st f fd := by
  obtain ⟨oc, od, kV, doc, pm, an, ct, osl, e, lk, hcd⟩ := F.ex
  exact ⟨⟨oc, od, kV, doc, pm, an, _, ct, osl, e, lk, hcd⟩, F.kp⟩
end

/-- the tables of code objects that grow: check_text's, is_name's, shortest's, _law_plain's -/
structure Tb where
  c : Addr
  i : Addr
  s : Addr
  p : Addr
/-- the names that _law_plain's lambdas bear -/
abbrev lamQ : Str := "_law_plain.<locals>.<lambda>"
/-- they stand -/
structure TOk (T : Tb) (H : Hp) : Prop where
  c : TabG H T.c
  i : TabG H T.i
  s : TabG H T.s
  p : LamX.TabS H T.p lamQ
  nc : T.p ≠ T.c
  ni : T.p ≠ T.i
  ns : T.p ≠ T.s
/-- all but tables stays, the tables stand -/
def Go (T : Tb) (H H' : Hp) : Prop := LamX.ExtN H H' ∧ TOk T H'
theorem Go.refl {T : Tb} {H : Hp} (t : TOk T H) : Go T H H := ⟨LamX.ExtN.refl H, t⟩
theorem Go.trans {T : Tb} {H H1 H2 : Hp} (a : Go T H H1) (b : Go T H1 H2) : Go T H H2 := ⟨a.1.trans b.1, b.2⟩
theorem TabG.not {H : Hp} {P b : Addr} {o : HO} (t : TabG H P) (e : H b = some o) (n : ∀ ps, o ≠ .tbl ps) : b ≠ P := fun z => by
  obtain ⟨ps, h, _⟩ := t
  rw [z, h] at e
  exact n ps (Option.some.inj e).symm
theorem tabG_of {H H' : Hp} {P : Addr} (t : TabG H P) (e : H' P = H P) : TabG H' P := by
  obtain ⟨ps, h, k⟩ := t
  exact ⟨ps, e.trans h, k⟩
theorem tabS_of {H H' : Hp} {P : Addr} {q : Str} (t : LamX.TabS H P q) (e : H' P = H P) (k : ∀ c, H c = some (LamX.CodeO c q) → H' c = some (LamX.CodeO c q)) : LamX.TabS H' P q := by
  obtain ⟨ps, h, ht, ha⟩ := t
  refine ⟨ps, e.trans h, ht, fun pos cv hc => ?_⟩
  obtain ⟨c, e1, e2⟩ := ha pos cv hc
  exact ⟨c, e1, k c e2⟩
/-- a table other than P stays when P's grows -/
theorem tabbed_tok {T : Tb} {H H' : Hp} {P : Addr} (t : TOk T H) (ne : T.p ≠ P) (hP : TabG H P) (tb : Tabbed P H H') : TOk T H' := by
  obtain ⟨g, k⟩ := tb
  have one : ∀ a, TabG H a → TabG H' a := fun a ta => by
    by_cases e : a = P
    · rw [e]; exact g
    · exact tabG_of ta (k a e)
  exact ⟨one _ t.c, one _ t.i, one _ t.s, tabS_of t.p (k _ ne) fun c e => by rw [k c (TabG.not hP e LamX.codeO_ne)]; exact e, t.nc, t.ni, t.ns⟩
theorem tabbed_go {T : Tb} {H H' : Hp} {P : Addr} (t : TOk T H) (ne : T.p ≠ P) (hP : TabG H P) (tb : Tabbed P H H') : Go T H H' :=
  ⟨fun b o e n => by rw [tb.2 b (TabG.not hP e n)]; exact e, tabbed_tok t ne hP tb⟩
/-- a new thing is laid -/
theorem go_upd {T : Tb} {H : Hp} {p : Addr} {o : HO} (t : TOk T H) (hp : H p = none) : Go T H (upd H p o) := by
  have k : ∀ a, TabG H a → TabG (upd H p o) a := fun a ta => tabG_of ta (upd_ne (fun e => by
    obtain ⟨ps, h, _⟩ := ta
    rw [e, hp] at h
    cases h))
  have q : ∀ b u, H b = some u → upd H p o b = some u := fun b u e => by rw [upd_ne (ne_of_none e hp)]; exact e
  have kp : upd H p o T.p = H T.p := by
    obtain ⟨ps, h, _⟩ := t.p
    rw [q _ _ h, h]
  exact ⟨fun b u e _ => q b u e, k _ t.c, k _ t.i, k _ t.s, tabS_of t.p kp fun c e => q _ _ e, t.nc, t.ni, t.ns⟩
theorem Go.at {T : Tb} {H H' : Hp} {b : Addr} {o : HO} (g : Go T H H') (e : H b = some o) (n : ∀ ps, o ≠ .tbl ps := by intro _ z; cases z) : H' b = some o := g.1 b o e n
theorem Go.seq {T : Tb} {K : PySem.W.Frag} {H H' : Hp} {a : Addr} {xs : List V} (g : Go T H H') (h : SqL K H a xs) : SqL K H' a xs := by
  rcases h with h | h
  · rcases h with h | ⟨o, h⟩
    · exact .inl (.inl (g.at h))
    · exact .inl (.inr ⟨o, g.at h⟩)
  · exact .inr h
end K1
end Text_K1b
section Text_K1c
set_option Elab.async false
set_option linter.all false
set_option maxRecDepth 100000
set_option maxHeartbeats 4000000
namespace K1
open PySem PySem.Spec PyProof.Rows L2 Gx GxR
/-- what the top has written: names of built-ins, constants, the error, the tables -/
structure Tx (K : PySem.W.Frag) (mg : Str → Option Value) (base : Heap) (T : Tb) (CS cc ci cs : Addr) : Prop where
  any : mg "any" = none
  all : mg "all" = none
  len : mg "len" = none
  sorted : mg "sorted" = none
  range : mg "range" = none
  abs : mg "abs" = none
  int : mg "int" = none
  dict : mg "dict" = none
  list : mg "list" = none
  sig : ∃ t, mg "SIGNS" = some (.str sigT t)
  let_ : ∃ t, mg "LETTERS" = some (.str letT t)
  size : ∃ t, mg "SIZE" = some (.int 10 t)
  end_ : ∃ t, mg "END" = some (.str "\n" t)
  prime : ∃ t, mg "PRIME" = some (.int 2305843009213693951 t)
  gC : mg "SignError" = some (.ref CS)
  xC : PySem.W.excIn K CS [.type "ValueError", .type "Exception", .type "BaseException", .type "object"] "ValueError.__new__" = true
  kC : PySem.W.keepIn K (.ref CS) = true
  bC : PySem.W.subIn K (.ref CS) (.type "BaseException") = some true
  tC : PySem.W.typeIn K (.ref CS) = some (.type "type")
  iC : PySem.W.isClsIn K CS = true
  sC : PySem.W.subIn K (.ref CS) (.ref CS) = some true
  bc : TabB base mg cc T.c
  bi : TabB base mg ci T.i
  bs : TabB base mg cs T.s

def good (z : Str) : Prop := ∀ c ∈ z.cps.toList, c ∈ sigT.cps.toList
instance (z : Str) : Decidable (good z) := by unfold good; infer_instance
def spCheck (T : Tb) (CS : Addr) : Sp := fun vs H Q E => ∃ z, vs = [.str z] ∧ TOk T H ∧ (good z → ∀ H', Go T H H' → Q .non H') ∧ (¬ good z → ∀ H', Go T H H' → E (.ref CS) none H')

section
variable {P : Program} {w : World} {K : PySem.W.Frag} {mg : Str → Option Value} {base : Heap} {T : Tb} {CS cc ci cs : Addr}
theorem scC : FnScope ["text", "sign"] ["text"] (defScope sCheck) := ⟨rfl, rfl, rfl, by decide +kernel, rfl, by decide +kernel, by decide +kernel⟩
theorem ok_check {f : Addr} {fd : FuncData} (F : FunC K "check_text" "check_text" sCheck f cc fd) (X : Tx K mg base T CS cc ci cs) : FnOk P w K mg base (L2.CX P w) 3 f fd ["text"] (spCheck T CS) := by
  refine F.okX scC (fun vs H Q E h => ?_) (fun A outer s H vs Q E hr h => ?_)
  · obtain ⟨z, rfl, _⟩ := h
    rfl
  · obtain ⟨z, rfl, tk, k1, k2⟩ := h
    obtain ⟨t0, hsig⟩ := X.sig
    refine ⟨_, pss_one (ps_if (pt_val (pe_anyG (own := [("sign", 1)]) (k := 1) hr rfl X.any X.bc rfl scC.nd (gOk_by (N := ["text", "sign"]) (sc := defScope sCheck) (by decide +kernel)) (pi_str (pv 0)) (fun _ _ _ _ _ _ => pg_name (i := 1) scC.nd rfl (Or.inl rfl)) (fun _ _ _ _ _ _ _ => pts_nil)
      (fun _ _ _ _ _ _ _ => pe_cmpR op_notIn_sign (pv 1) (pe_glob (v := .str sigT) rfl hsig ⟨_, rfl⟩) (by rfl))))
      (pss_one (ps_raise rfl (takes_of rfl rfl rfl rfl) (pmk_own PySem.F.excBase_ValueError X.xC X.gC X.kC (raises_own X.bC X.tC) rfl))) pss_nil), ?_⟩
    refine ⟨_, rfl, z, rfl, tk.c, fun H2 tb => any_text (fun c => !decide (c ∈ sigT.cps.toList)) (fun c Q' q => ⟨_, rfl, c, sigT, rfl, rfl, q⟩) ⟨_, rfl, ?_⟩⟩
    have go := tabbed_go tk tk.nc tk.c tb
    by_cases hg : good z
    · have e : z.cps.toList.any (fun c => !decide (c ∈ sigT.cps.toList)) = false := by
        rw [List.any_eq_false]
        intro c hc
        have := hg c hc
        simp [this]
      rw [e]
      exact iteF (k1 hg _ go)
    · have e : z.cps.toList.any (fun c => !decide (c ∈ sigT.cps.toList)) = true := by
        refine Decidable.byContradiction fun q => hg fun c hc => ?_
        have q2 := List.any_eq_false.mp (Bool.not_eq_true _ ▸ q) c hc
        simpa using q2
      rw [e]
      exact iteT (k2 hg _ go)
end
end K1
end Text_K1c
section Text_K1d
set_option Elab.async false
set_option linter.all false
set_option maxRecDepth 100000
set_option maxHeartbeats 4000000
namespace K1
open PySem PySem.Spec PyProof.Rows L2 Gx GxR
/-- one sign more -/
def stepN (f : Int) (c : Nat) : Int := (f * 1000003 + Txt.find sigT ⟨#[c]⟩ + 1) % 2305843009213693951
def numberOf (cs : List Nat) : Int := cs.foldl stepN 7
theorem stepN_lt (f : Int) (c : Nat) : 0 ≤ stepN f c ∧ stepN f c < 2305843009213693951 := by
  unfold stepN
  exact ⟨Int.emod_nonneg _ (by decide), Int.emod_lt_of_pos _ (by decide)⟩
theorem foldN_lt : ∀ (cs : List Nat) (f : Int), 0 ≤ f ∧ f < 2305843009213693951 → 0 ≤ cs.foldl stepN f ∧ cs.foldl stepN f < 2305843009213693951
  | [], f, h => h
  | c :: cs, f, h => by
    rw [List.foldl_cons]
    exact foldN_lt cs _ (stepN_lt f c)
theorem number_lt (cs : List Nat) : 0 ≤ numberOf cs ∧ numberOf cs < 2305843009213693951 := foldN_lt cs 7 (by decide)
theorem number_take {cs : List Nat} {i c : Nat} (h : cs[i]? = some c) : numberOf (cs.take (i + 1)) = stepN (numberOf (cs.take i)) c := by
  unfold numberOf
  rw [List.take_add_one, h, List.foldl_append]
  rfl
theorem cps_at {z : Str} {i c : Nat} (h : z.cps[i]? = some c) : z.cps.toList[i]? = some c := by rw [Array.getElem?_toList]; exact h
def spNumber (T : Tb) (CS : Addr) : Sp := fun vs H Q E => ∃ z, vs = [.str z] ∧ TOk T H ∧ (good z → ∀ H', Go T H H' → Q (.int (numberOf z.cps.toList)) H') ∧ (¬ good z → ∀ H', Go T H H' → E (.ref CS) none H')
section
variable {P : Program} {w : World} {K : PySem.W.Frag} {mg : Str → Option Value} {base : Heap} {T : Tb} {CS cc ci cs : Addr}
theorem scN : FnScope ["text", "found", "sign"] ["text"] (defScope sNumber) := ⟨rfl, rfl, rfl, by decide +kernel, rfl, by decide +kernel, by decide +kernel⟩
theorem ok_number {f fC : Addr} {fd fdC : FuncData} (F : Fun K "number_of" "number_of" sNumber f fd) (X : Tx K mg base T CS cc ci cs) (GC : FnOk P w K mg base (L2.CX P w) 3 fC fdC ["text"] (spCheck T CS)) (mC : mg "check_text" = some (.ref fC))
    (kC : PySem.W.keepIn K (.ref fC) = true) (bC : Binds K fdC ["text"] []) : FnOk P w K mg base (L2.CX P w) 4 f fd ["text"] (spNumber T CS) := by
  refine F.okX scN (fun vs H Q E h => ?_) (fun cdv A outer s H vs Q E hr h => ?_)
  · obtain ⟨z, rfl, _⟩ := h
    rfl
  · obtain ⟨z, rfl, tk, k1, k2⟩ := h
    obtain ⟨t0, hsig⟩ := X.sig
    obtain ⟨t1, hpr⟩ := X.prime
    refine ⟨_, pss_cons (ps_expr (pe_call GC hr rfl mC kC bC .nil (passes_call (takes_of rfl rfl rfl rfl) (fun _ _ _ _ e => e)) (pa_cons (pv 0) pa_nil)))
      (pss_cons (ps_set (i := 1) scN.nd rfl (Or.inl rfl) pe_int)
      (pss_cons (ps_for (passes_of rfl) rfl (pi_str (pv 0)) (pg_name (i := 2) scN.nd rfl (Or.inl rfl))
        (pss_one (ps_set (i := 1) scN.nd rfl (Or.inl rfl) (pe_op op_mod (pe_op op_add (pe_op op_add (pe_op op_mul (pv 1) pe_int) (pe_m1 PySem.F.slot_str_find PySem.F.type_str_find mt_find (pe_glob (v := .str sigT) rfl hsig ⟨_, rfl⟩) (pv 2))) pe_int) (pe_glob (v := .int 2305843009213693951) rfl hpr ⟨_, rfl⟩)))))
      (pss_one (ps_ret (pv 1))))), ?_⟩
    refine ⟨_, rfl, z, rfl, tk, fun hg H1 g1 => ?_, fun hg H1 g1 => k2 hg H1 g1⟩
    refine ⟨_, rfl, z, rfl, for_turns z.cps.size (fun i σ H' => H' = H1 ∧ ∃ v, σ = [some (.str z), some (.int (numberOf (z.cps.toList.take i))), v]) ⟨rfl, none, rfl⟩ (fun i σ H' hi p => ⟨hi, fun x H2 y => ?_⟩) fun σ H' p => ⟨Nat.le_refl _, ?_⟩⟩
    · obtain ⟨rfl, v, rfl⟩ := p
      obtain ⟨rfl, c, hc, rfl⟩ := y
      have nb := number_lt (z.cps.toList.take i)
      refine ⟨_, rfl, _, _, rfl, rfl, .inl ⟨by omega, by omega⟩, ⟨_, rfl⟩, _, rfl, sigT, _, rfl, rfl, _, _, rfl, rfl, _, _, rfl, rfl, _, _, rfl, rfl, (by show (0 : Int) < 2305843009213693951; decide), rfl, some (.str ⟨#[c]⟩), ?_⟩
      rw [number_take (cps_at hc)]
      rfl
    · obtain ⟨rfl, v, rfl⟩ := p
      refine ⟨_, rfl, ?_⟩
      rw [List.take_of_length_le (by simp)]
      exact k1 hg _ g1
end
end K1
end Text_K1d
section Text_K1e
set_option Elab.async false
set_option linter.all false
set_option maxRecDepth 100000
set_option maxHeartbeats 4000000
namespace K1
open PySem PySem.Spec PyProof.Rows L2 Gx GxR
/-- a text by its signs -/
def tx (l : List Nat) : Str := ⟨l.toArray⟩
theorem tx_cons (c : Nat) (l : List Nat) : ((⟨#[c]⟩ : Str) ++ tx l) = tx (c :: l) := by
  show (⟨#[c] ++ l.toArray⟩ : Str) = ⟨(c :: l).toArray⟩
  simp
theorem tx_app (a b : List Nat) : tx a ++ tx b = tx (a ++ b) := by
  show (⟨a.toArray ++ b.toArray⟩ : Str) = ⟨(a ++ b).toArray⟩
  simp
theorem tx_len (l : List Nat) : (tx l).length = l.length := by
  show l.toArray.size = l.length
  simp
theorem tx_list (l : List Nat) : (tx l).cps.toList = l := by simp [tx]
theorem tx_of (z : Str) : tx z.cps.toList = z := by
  cases z
  simp [tx]
def letAt (n : Int) : Nat := letT.cps.toList.getD (n % 26).toNat 0
/-- the number that is left and the figures so far -/
def stD (n : Int) : Nat → Int × List Nat
  | 0 => (n, [])
  | i + 1 => ((stD n i).1 / 26, letAt (stD n i).1 :: (stD n i).2)
theorem stD_len (n : Int) : ∀ i, (stD n i).2.length = i
  | 0 => rfl
  | i + 1 => by
    show (letAt _ :: (stD n i).2).length = i + 1
    rw [List.length_cons, stD_len n i]
def digOf (n : Int) : List Nat := (stD n 10).2
/-- the name of a text -/
def digestOf (z : Str) : Str := tx (digOf (numberOf z.cps.toList))
theorem let_size : letT.cps.toList.length = 26 := by
  rw [Array.length_toList]
  exact let_len
theorem mod26 (n : Int) : 0 ≤ n % 26 ∧ n % 26 < 26 := ⟨Int.emod_nonneg _ (by decide), Int.emod_lt_of_pos _ (by decide)⟩
theorem let_get (n : Int) : letT.cps[(n % 26).toNat]? = some (letAt n) := by
  have h := mod26 n
  have e : (n % 26).toNat < letT.cps.toList.length := by rw [let_size]; omega
  unfold letAt
  rw [← Array.getElem?_toList, List.getD_eq_getElem?_getD, List.getElem?_eq_getElem e]
  rfl
theorem letAt_mem (n : Int) : letAt n ∈ letT.cps.toList := by
  have h := let_get n
  rw [← Array.getElem?_toList] at h
  exact List.mem_of_getElem? h
theorem stD_mem (n : Int) : ∀ i, ∀ c ∈ (stD n i).2, c ∈ letT.cps.toList
  | 0, c, h => by cases h
  | i + 1, c, h => by
    rcases List.mem_cons.mp h with e | h
    · rw [e]; exact letAt_mem _
    · exact stD_mem n i c h
theorem dig_len (n : Int) : (digOf n).length = 10 := stD_len n 10
theorem dig_mem (n : Int) : ∀ c ∈ digOf n, c ∈ letT.cps.toList := stD_mem n 10
theorem ip_fdiv {X : Cx} : PIp X .FloorDiv (rI CDiv fun i j => .int (i / j)) := fun _ _ _ _ _ _ _ _ _ I rx ry q => augR iop_fdiv I rx ry q
def spDigest (T : Tb) (CS : Addr) : Sp := fun vs H Q E => ∃ z, vs = [.str z] ∧ TOk T H ∧ (good z → ∀ H', Go T H H' → Q (.str (digestOf z)) H') ∧ (¬ good z → ∀ H', Go T H H' → E (.ref CS) none H')
section
variable {P : Program} {w : World} {K : PySem.W.Frag} {mg : Str → Option Value} {base : Heap} {T : Tb} {CS cc ci cs : Addr}
theorem scD : FnScope ["text", "number", "found", "place"] ["text"] (defScope sDigest) := ⟨rfl, rfl, rfl, by decide +kernel, rfl, by decide +kernel, by decide +kernel⟩
theorem ok_digest {f fN : Addr} {fd fdN : FuncData} (F : Fun K "digest" "digest" sDigest f fd) (X : Tx K mg base T CS cc ci cs) (GN : FnOk P w K mg base (L2.CX P w) 4 fN fdN ["text"] (spNumber T CS)) (mN : mg "number_of" = some (.ref fN))
    (kN : PySem.W.keepIn K (.ref fN) = true) (bN : Binds K fdN ["text"] []) : FnOk P w K mg base (L2.CX P w) 5 f fd ["text"] (spDigest T CS) := by
  refine F.okX scD (fun vs H Q E h => ?_) (fun cdv A outer s H vs Q E hr h => ?_)
  · obtain ⟨z, rfl, _⟩ := h
    rfl
  · obtain ⟨z, rfl, tk, k1, k2⟩ := h
    obtain ⟨t0, hlet⟩ := X.let_
    obtain ⟨t1, hsz⟩ := X.size
    refine ⟨_, pss_cons (ps_par (i := 1) (j := 2) rfl scD.nd rfl rfl (by decide) rfl rfl (pa_cons (pe_call GN hr rfl mN kN bN .nil (passes_call (takes_of rfl rfl rfl rfl) (fun _ _ _ _ e => e)) (pa_cons (pv 0) pa_nil)) (pa_cons pe_str pa_nil)) (by rfl))
      (pss_cons (ps_for (passes_of rfl) rfl (pi_range1 rfl X.range (pa_cons (pe_glob (v := .int 10) rfl hsz ⟨_, rfl⟩) pa_nil)) (pg_name (i := 3) scD.nd rfl (Or.inl rfl))
        (pss_cons (ps_set (i := 2) scD.nd rfl (Or.inl rfl) (pe_op op_add_str (pe_item_str (pe_glob (v := .str letT) rfl hlet ⟨_, rfl⟩) (pe_op op_mod (pv 1) pe_int) (fun _ _ => rfl)) (pv 2)))
        (pss_one (ps_aug (i := 1) scD.nd rfl (Or.inl rfl) pe_int ip_fdiv))))
      (pss_one (ps_ret (pv 2)))), ?_⟩
    refine ⟨_, rfl, z, rfl, tk, fun hg H1 g1 => ?_, fun hg H1 g1 => k2 hg H1 g1⟩
    refine ⟨_, _, rfl, ?_⟩
    refine ⟨10, rfl, by decide, by decide, for_range (lo := 0) (n := 10) (fun i σ H' => H' = H1 ∧ ∃ v, σ = [some (.str z), some (.int (stD (numberOf z.cps.toList) i).1), some (.str (tx (stD (numberOf z.cps.toList) i).2)), v]) ⟨rfl, none, rfl⟩ (fun i σ H' hi p => ?_) fun σ H' p => ?_⟩
    · obtain ⟨rfl, v, rfl⟩ := p
      have hm := mod26 (stD (numberOf z.cps.toList) i).1
      refine ⟨_, rfl, _, _, rfl, rfl, (by show (0 : Int) < 26; decide), letT, _, letAt (stD (numberOf z.cps.toList) i).1, rfl, rfl, hm.1, by omega, ?_, let_get _, _, rfl, _, _, rfl, rfl, ?_, ?_⟩
      · show (stD (numberOf z.cps.toList) i).1 % 26 < ((letT.cps.size : Nat) : Int)
        rw [let_len]
        exact hm.2
      · rw [tx_len, stD_len]
        show 1 + i ≤ sizeLine
        rw [sizeLine_eq]
        omega
      · refine ⟨_, rfl, _, _, rfl, rfl, ⟨by decide, by decide⟩, rfl, some (.int (0 + (i : Int))), ?_⟩
        rw [tx_cons]
        rfl
    · obtain ⟨rfl, v, rfl⟩ := p
      exact ⟨_, rfl, k1 hg _ g1⟩
end
end K1
end Text_K1e
section Text_K1f
set_option Elab.async false
set_option linter.all false
set_option maxRecDepth 100000
set_option maxHeartbeats 4000000
namespace K1
open PySem PySem.Spec PyProof.Rows L2 Gx GxR
/-- ten letters -/
def isName (z : Str) : Bool := decide (z.length = 10) && z.cps.toList.all fun c => decide (c ∈ letT.cps.toList)
theorem isName_digest (z : Str) : isName (digestOf z) = true := by
  unfold isName digestOf
  rw [tx_len, dig_len, tx_list]
  simp only [decide_true, Bool.true_and, List.all_eq_true, decide_eq_true_eq]
  exact dig_mem _
def spIsName (T : Tb) : Sp := fun vs H Q _ => ∃ z, vs = [.str z] ∧ z.length ≤ 1000 ∧ TOk T H ∧ ∀ H', Go T H H' → Q (.bl (isName z)) H'
section
variable {P : Program} {w : World} {K : PySem.W.Frag} {mg : Str → Option Value} {base : Heap} {T : Tb} {CS cc ci cs : Addr}
theorem scI : FnScope ["text", "sign"] ["text"] (defScope sIsName) := ⟨rfl, rfl, rfl, by decide +kernel, rfl, by decide +kernel, by decide +kernel⟩
theorem ok_isName {f : Addr} {fd : FuncData} (F : FunC K "is_name" "is_name" sIsName f ci fd) (X : Tx K mg base T CS cc ci cs) : FnOk P w K mg base CX0 3 f fd ["text"] (spIsName T) := by
  refine F.ok scI (fun vs H Q E h => ?_) (fun A outer s H vs Q E hr h => ?_)
  · obtain ⟨z, rfl, _⟩ := h
    rfl
  · obtain ⟨z, rfl, hz, tk, k1⟩ := h
    obtain ⟨t0, hlet⟩ := X.let_
    obtain ⟨t1, hsz⟩ := X.size
    refine ⟨_, pss_one (ps_ret (pe_and (pe_cmpR op_eq (pe_callB call_len_str (by rfl) X.len PySem.boot_len (pa_cons (pv 0) pa_nil)) (pe_glob (v := .int 10) rfl hsz ⟨_, rfl⟩) (nomark _))
      (pe_one (pe_allG (own := [("sign", 1)]) (k := 1) hr rfl X.all X.bi rfl scI.nd (gOk_by (N := ["text", "sign"]) (sc := defScope sIsName) (by decide +kernel)) (pi_str (pv 0)) (fun _ _ _ _ _ _ => pg_name (i := 1) scI.nd rfl (Or.inl rfl)) (fun _ _ _ _ _ _ _ => pts_nil)
        (fun _ _ _ _ _ _ _ => pe_cmpR op_in_sign (pv 1) (pe_glob (v := .str letT) rfl hlet ⟨_, rfl⟩) (by rfl)))))), ?_⟩
    refine ⟨_, rfl, z, rfl, Nat.le_trans hz (by decide), rfl, _, rfl, ?_⟩
    have e10 : ((z.length : Int) = 10) ↔ z.length = 10 := by omega
    by_cases h10 : z.length = 10
    · have hd : decide (V.int (z.length : Int) = V.int 10) = true := by rw [h10]; rfl
      rw [hd]
      refine iteT ⟨_, rfl, z, rfl, tk.i, fun H2 tb => all_text (fun c => decide (c ∈ letT.cps.toList)) (fun c Q' q => ⟨_, rfl, c, letT, rfl, rfl, q⟩) ?_⟩
      have := k1 _ (tabbed_go tk tk.ni tk.i tb)
      unfold isName at this
      rw [decide_eq_true h10, Bool.true_and] at this
      exact this
    · have hd : decide (V.int (z.length : Int) = V.int 10) = false := decide_eq_false fun q => h10 (by
        have q' := V.int.inj q
        omega)
      rw [hd]
      refine iteF ?_
      have := k1 _ (Go.refl tk)
      unfold isName at this
      rw [decide_eq_false h10, Bool.false_and] at this
      exact this
end
end K1
end Text_K1f
section Text_K1g
set_option Elab.async false
set_option linter.all false
set_option maxRecDepth 100000
set_option maxHeartbeats 4000000
namespace K1
open PySem PySem.Spec PyProof.Rows L2 Gx GxR
/-- any dice at l -/
def DiceV (xs : List V) : Prop := ∃ a b c : Int, xs = [.int a, .int b, .int c]
def DiceAt (H : Hp) (l : Addr) : Prop := ∃ xs, H l = some (.lst xs) ∧ DiceV xs
def spDice : Sp := fun vs H Q _ => ∃ n : Int, vs = [.int n] ∧ ∀ l a b c, H l = none → Q (.ref l) (upd H l (.lst [.int a, .int b, .int c]))
section
variable {P : Program} {w : World} {K : PySem.W.Frag} {mg : Str → Option Value} {base : Heap} {T : Tb} {CS cc ci cs : Addr}
theorem scDi : FnScope ["cell"] ["cell"] (defScope sDice) := ⟨rfl, rfl, rfl, by decide +kernel, rfl, by decide +kernel, by decide +kernel⟩
theorem ok_dice {f : Addr} {fd : FuncData} (F : Fun K "_law_dice" "_law_dice" sDice f fd) (X : Tx K mg base T CS cc ci cs) : FnOk P w K mg base CX0 1 f fd ["cell"] spDice := by
  refine F.ok scDi (fun vs H Q E h => ?_) (fun cdv A outer s H vs Q E hr h => ?_)
  · obtain ⟨n, rfl, _⟩ := h
    rfl
  · obtain ⟨n, rfl, k1⟩ := h
    refine ⟨_, pss_cons (ps_if (pt_chain op_lt op_lt (pe_op op_sub pe_int pe_int) (pv 0) pe_int) (pss_one (ps_ret (pe_lst (pa_cons (pe_callB call_abs (by rfl) X.abs (by decide +kernel) (pa_cons (pv 0) pa_nil)) (pa_cons pe_int (pa_cons pe_int pa_nil)))))) pss_nil)
      (pss_one (ps_ret (pe_lst (pa_cons (pv 0) (pa_cons (pe_op op_add pe_int (pe_op op_mod (pe_callTy call_int1 (by rfl) X.int (by decide +kernel) (pa_cons (pv 0) pa_nil)) pe_int)) (pa_cons (pe_callTy call_int1 (by rfl) X.int (by decide +kernel) (pa_cons (pe_cmpR op_ge (pv 0) (pe_op op_pow pe_int pe_int) (by rfl)) pa_nil)) pa_nil)))))), ?_⟩
    refine ⟨_, _, rfl, rfl, _, rfl, _, _, rfl, rfl, _, rfl, ?_⟩
    have lst3 : ∀ H' : Hp, H' = H → ∀ a b c : Int, ([V.int a, .int b, .int c] : List V).length ≤ sizeLine ∧ ∀ p, H' p = none → Q (.ref p) (upd H' p (.lst [.int a, .int b, .int c])) := fun H' e a b c => ⟨by show 3 ≤ sizeLine; decide, fun p hp => by rw [e] at hp ⊢; exact k1 p a b c hp⟩
    refine ite2 (fun _ => ⟨_, _, rfl, rfl, _, rfl, ite2 (fun _ => ⟨_, rfl, _, rfl, lst3 H rfl _ 0 2⟩) (fun _ => ?_)⟩) (fun _ => ⟨_, rfl, ?_⟩)
    all_goals exact ⟨_, rfl, _, rfl, .inl ⟨_, rfl, _, _, rfl, rfl, (by show (0 : Int) < 1009; decide), _, _, rfl, rfl, _, rfl, _, _, rfl, rfl, ⟨by decide, by decide, by decide⟩, _, _, rfl, rfl, .inr ⟨_, rfl, lst3 H rfl _ _ _⟩⟩⟩
end
end K1
end Text_K1g
section Text_K1h
set_option Elab.async false
set_option linter.all false
set_option maxRecDepth 100000
set_option maxHeartbeats 4000000
namespace L2
theorem pss_dead {X : Cx} {st : List PySem.Stmt} : PSs X st (fun _ _ _ => False) := ⟨fun _ _ _ _ _ _ h => h.elim⟩
end L2
namespace K1
open PySem PySem.Spec PyProof.Rows L2 Gx GxR
def spRoll : Sp := fun vs H Q _ => ∃ (l : Addr) (m : Int), vs = [.ref l, .int m] ∧ 0 < m ∧ m ≤ 100000000 ∧ DiceAt H l ∧ ∀ (r : Int) xs, 0 ≤ r → r < m → DiceV xs → Q (.int r) (upd H l (.lst xs))
section
variable {P : Program} {w : World} {K : PySem.W.Frag} {mg : Str → Option Value} {base : Heap} {T : Tb} {CS cc ci cs : Addr}
theorem orR {c : Bool} {A B : Prop} (h1 : c = true → A) (h2 : c = false → B) : if c = true then A else B := by
  cases c with
  | true => exact h1 rfl
  | false => exact h2 rfl
theorem iteF' {c A B : Prop} [Decidable c] (h : ¬ c) (b : B) : if c then A else B := by rw [if_neg h]; exact b
theorem scRo : FnScope ["dice", "many", "found"] ["dice", "many"] (defScope sRoll) := ⟨rfl, rfl, rfl, by decide +kernel, rfl, by decide +kernel, by decide +kernel⟩
theorem ok_roll {f : Addr} {fd : FuncData} (F : Fun K "_law_roll" "_law_roll" sRoll f fd) (X : Tx K mg base T CS cc ci cs) : FnOk P w K mg base CX0 1 f fd ["dice", "many"] spRoll := by
  refine F.ok scRo (fun vs H Q E h => ?_) (fun cdv A outer s H vs Q E hr h => ?_)
  · obtain ⟨l, m, rfl, _⟩ := h
    rfl
  · obtain ⟨l, m, rfl, hm, hm2, ⟨xs, hl, a, b, c, rfl⟩, k1⟩ := h
    refine ⟨_, pss_cons (ps_if (PW.pt (pw_or (pt_cmpR op_eq (pe_ix ix_list (pv 0) pe_int (fun _ _ => rfl)) pe_int (nomark _)) (pw_or1 (PW.pt (pw_and (pt_cmpR op_eq (pe_ix ix_list (pv 0) pe_int (fun _ _ => rfl)) pe_int (nomark _)) (pw_and1 (pt_cmpR op_gt (pe_ix ix_list (pv 0) pe_int (fun _ _ => rfl)) pe_int (nomark _))))))))
        (pss_cons (ps_set (i := 2) scRo.nd rfl (Or.inl rfl) (pe_op op_mod (pe_callTy call_int1 (by rfl) X.int (by decide +kernel) (pa_cons (pe_ix ix_list (pv 0) pe_int (fun _ _ => rfl)) pa_nil)) (pv 1)))
        (pss_cons (ps_asg (pe_op op_fdiv (pe_ix ix_list (pv 0) pe_int (fun _ _ => rfl)) (pv 1)) (pg_sub (pv 0) pe_int set_list)) (pss_one (ps_ret (pv 2))))) pss_nil)
      (pss_cons (ps_asg pe_int (pg_sub (pv 0) pe_int set_list))
      (pss_cons (ps_if (pt_cmpR op_gt (pv 1) pe_int (nomark _)) pss_dead pss_nil)
      (pss_cons (ps_asg (pe_op op_mod (pe_callTy call_int1 (by rfl) X.int (by decide +kernel) (pa_cons (pe_op op_add (pe_op op_add (pe_op op_mul (pe_ix ix_list (pv 0) pe_int (fun _ _ => rfl)) pe_int) (pe_op op_mul (pe_ix ix_list (pv 0) pe_int (fun _ _ => rfl)) pe_int)) pe_int) pa_nil)) pe_int) (pg_sub (pv 0) pe_int set_list))
      (pss_cons (ps_asg (pe_op op_add (pe_ix ix_list (pv 0) pe_int (fun _ _ => rfl)) pe_int) (pg_sub (pv 0) pe_int set_list))
      (pss_one (ps_ret (pe_op op_mod (pe_callTy call_int1 (by rfl) X.int (by decide +kernel) (pa_cons (pe_op op_fdiv (pe_ix ix_list (pv 0) pe_int (fun _ _ => rfl)) pe_int) pa_nil)) (pv 1)))))))), ?_⟩
    have cd : CDiv a m := ⟨hm, by omega⟩
    have m0 : (0 : Int) < 1 := by decide
    refine ⟨_, rfl, _, _, _, _, rfl, rfl, SqL.of hl, rfl, rfl, _, rfl, ?_⟩
    have later := k1
    refine orR (fun _ => ?fst) (fun _ => ⟨_, rfl, _, _, _, _, rfl, rfl, SqL.of hl, rfl, rfl, _, rfl, ite2 (fun _ => ⟨_, rfl, _, _, _, _, rfl, rfl, SqL.of hl, rfl, _, _, rfl, rfl, _, rfl, ite2 (fun _ => ?fst2) (fun _ => ?lst2)⟩) (fun _ => ?lst)⟩)
    case fst => exact ⟨_, rfl, _, _, _, _, rfl, rfl, SqL.of hl, rfl, .inl ⟨_, rfl, _, rfl, _, _, rfl, rfl, hm, _, rfl, _, _, _, _, rfl, rfl, SqL.of hl, rfl, _, rfl, _, _, rfl, rfl, cd, _, rfl, _, _, _, _, rfl, rfl, hl, rfl, _, rfl, k1 _ _ (Int.emod_nonneg _ (by omega)) (Int.emod_lt_of_pos _ hm) ⟨_, _, _, rfl⟩⟩⟩
    case fst2 => exact ⟨_, rfl, _, _, _, _, rfl, rfl, SqL.of hl, rfl, .inl ⟨_, rfl, _, rfl, _, _, rfl, rfl, hm, _, rfl, _, _, _, _, rfl, rfl, SqL.of hl, rfl, _, rfl, _, _, rfl, rfl, cd, _, rfl, _, _, _, _, rfl, rfl, hl, rfl, _, rfl, k1 _ _ (Int.emod_nonneg _ (by omega)) (Int.emod_lt_of_pos _ hm) ⟨_, _, _, rfl⟩⟩⟩
    all_goals refine ⟨_, rfl, _, _, _, _, rfl, rfl, hl, rfl, ?_⟩
    all_goals have m2 : ¬ (decide ((100000000 : Int) < m) = true) := by simp; omega
    all_goals have pos : (0 : Int) < 2147483647 := by decide
    all_goals refine ⟨_, rfl, _, _, rfl, rfl, _, rfl, iteF' m2 ?_⟩
    all_goals refine ⟨_, rfl, _, _, _, _, rfl, rfl, SqL.of upd_same, rfl, _, _, rfl, rfl, .inr ⟨by decide, by decide⟩, _, rfl, _, _, _, _, rfl, rfl, SqL.of upd_same, rfl, _, _, rfl, rfl, .inr ⟨by decide, by decide⟩, _, _, rfl, rfl, _, _, rfl, rfl, .inl ⟨_, rfl, _, _, rfl, rfl, pos, _, rfl, _, _, _, _, rfl, rfl, upd_same, rfl, ?_⟩⟩
    all_goals refine ⟨_, rfl, _, _, _, _, rfl, rfl, SqL.of upd_same, rfl, _, _, rfl, rfl, _, rfl, _, _, _, _, rfl, rfl, upd_same, rfl, ?_⟩
    all_goals refine ⟨_, rfl, _, _, _, _, rfl, rfl, SqL.of upd_same, rfl, _, _, rfl, rfl, ⟨by decide, by decide⟩, .inl ⟨_, rfl, _, rfl, _, _, rfl, rfl, hm, ?_⟩⟩
    all_goals rw [upd_upd, upd_upd]
    all_goals exact k1 _ _ (Int.emod_nonneg _ (by omega)) (Int.emod_lt_of_pos _ hm) ⟨_, _, _, rfl⟩
end
end K1
end Text_K1h
section Text_K1i
set_option Elab.async false
set_option linter.all false
set_option maxRecDepth 100000
set_option maxHeartbeats 4000000
namespace K1
open PySem PySem.Spec PyProof.Rows L2 Gx GxR
/-- what is read of the script -/
def intsV (xs : List V) : Prop := ∀ x ∈ xs, ∃ n : Int, x = .int n
/-- nothing but a table may have stood there -/
def Fresh (H : Hp) (D : Addr) : Prop := ∀ u, H D = some u → ∃ ps, u = .tbl ps
theorem fresh_of {T : Tb} {H G : Hp} {D : Addr} (g : Go T H G) (hD : G D = none) : Fresh H D := fun u e => by
  refine Classical.byContradiction fun n => ?_
  have := g.1 D u e (fun ps z => n ⟨ps, z⟩)
  rw [hD] at this
  cases this
theorem fresh_none {H : Hp} {D : Addr} (h : H D = none) : Fresh H D := fun u e => by rw [h] at e; cases e
/-- what is new may be written over -/
theorem go_put {T : Tb} {H G : Hp} {D : Addr} {o u : HO} (g : Go T H G) (fr : Fresh H D) (e : G D = some u) (n : ∀ ps, u ≠ .tbl ps := by intro _ z; cases z) (n2 : ∀ φ, u ≠ .ext φ := by intro _ z; cases z) : Go T H (upd G D o) := by
  have k : ∀ a, TabG G a → TabG (upd G D o) a := fun a ta => tabG_of ta (upd_ne (Ne.symm (TabG.not ta e n)))
  have kp : upd G D o T.p = G T.p := upd_ne fun z => by
    obtain ⟨ps, h, _⟩ := g.2.p
    rw [z, e] at h
    exact n ps (Option.some.inj h)
  refine ⟨fun b v eb nb => ?_, k _ g.2.c, k _ g.2.i, k _ g.2.s, tabS_of g.2.p kp fun c ec => ?_, g.2.nc, g.2.ni, g.2.ns⟩
  · have : b ≠ D := fun z => by
      rw [z] at eb
      obtain ⟨ps, q⟩ := fr v eb
      exact nb ps q
    rw [upd_ne this]
    exact g.1 b v eb nb
  · have : c ≠ D := fun z => by
      rw [z, e] at ec
      exact n2 _ (Option.some.inj ec)
    rw [upd_ne this]
    exact ec
def spRounds (K : PySem.W.Frag) (T : Tb) : Sp := fun vs H Q _ => ∃ a xs, vs = [.ref a, .int 1] ∧ SqL K H a xs ∧ intsV xs ∧ TOk T H ∧ ∀ H' l d, Go T H H' → H' l = some (.lst [.ref d]) → DiceAt H' d → l ≠ d → Q (.ref l) H'
section
variable {P : Program} {w : World} {K : PySem.W.Frag} {mg : Str → Option Value} {base : Heap} {T : Tb} {CS cc ci cs : Addr}
theorem scRu : FnScope ["script", "most", "cells", "cell"] ["script", "most"] (defScope sRounds) := ⟨rfl, rfl, rfl, by decide +kernel, rfl, by decide +kernel, by decide +kernel⟩
theorem ok_rounds {f fD : Addr} {fd fdD : FuncData} (F : Fun K "_law_rounds" "_law_rounds" sRounds f fd) (X : Tx K mg base T CS cc ci cs) (GD : FnOk P w K mg base CX0 1 fD fdD ["cell"] spDice) (mD : mg "_law_dice" = some (.ref fD))
    (kD : PySem.W.keepIn K (.ref fD) = true) (bD : Binds K fdD ["cell"] []) : FnOk P w K mg base CX0 2 f fd ["script", "most"] (spRounds K T) := by
  refine F.ok scRu (fun vs H Q E h => ?_) (fun cdv A outer s H vs Q E hr h => ?_)
  · obtain ⟨a, xs, rfl, _⟩ := h
    rfl
  · obtain ⟨a, xs, rfl, hx, hi, tk, k1⟩ := h
    refine ⟨_, pss_cons (ps_set (i := 2) scRu.nd rfl (Or.inl rfl) (pe_slice sl_list (pv 0) po_none (po_some (pv 1))))
      (pss_cons (ps_if (pt_cmpR (op_eqD hr.units) (pv 2) (pe_lst pa_nil) (nomark _)) (pss_one (ps_set (i := 2) scRu.nd rfl (Or.inl rfl) (pe_lst (pa_cons pe_int pa_nil)))) pss_nil)
      (pss_one (ps_ret (pe_lc (own := [("cell", 3)]) (g := gName 3) (tt := tYes) rfl scRu.nd (pi_list (pv 2)) (blkOk_by (N := ["script", "most", "cells", "cell"]) (sc := defScope sRounds) (by decide +kernel)) (fun _ _ _ _ _ => pg_name (i := 3) scRu.nd rfl (Or.inl rfl)) (fun _ _ _ _ _ => pts_nil)
        (fun _ _ _ _ _ => pe_call GD hr rfl mD kD bD .nil pass0 (pa_cons (pv 3) pa_nil)))))), ?_⟩
    refine ⟨_, rfl, _, rfl, _, rfl, _, _, rfl, hx, fun p hp => ?_⟩
    have ecut : cutV xs none (some 1) = xs.take 1 := by
      unfold cutV HT.sIx
      simp
    have g1 : Go T H (upd H p (.lst (xs.take 1))) := go_upd tk hp
    show (_ : Prop)
    rw [ecut]
    refine ⟨_, rfl, by decide, fun q hq => ?_⟩
    have g2 := g1.trans (go_upd (o := .lst []) g1.2 hq)
    have hpq : q ≠ p := fun e => by rw [e, upd_same] at hq; cases hq
    have e1 : ∀ v, upd (upd H p (.lst (xs.take 1))) q v p = some (.lst (xs.take 1)) := fun v => by rw [upd_ne (Ne.symm hpq), upd_same]
    have last : ∀ (n : Int) (G : Hp) (c : Addr), Go T H G → G c = some (.lst [.int n]) → tLc (iList K (tVar 2)) (gName 3) tYes (tCall spDice [] E0 (tCons (tVar 3) tNil)) [3] [some (.ref a), some (.int 1), some (.ref c), none] G Q := fun n G c g e => by
      refine ⟨_, rfl, c, rfl, ⟨_, SqL.of e⟩, fun D hD => lc_list (xs := [.int n]) (fun i G' => Go T H G' ∧ G' c = some (.lst [.int n]) ∧ ∃ acc, G' D = some (.lst acc) ∧ (i = 0 ∧ acc = [] ∨ i = 1 ∧ ∃ d, acc = [.ref d] ∧ DiceAt G' d ∧ D ≠ d)) ?_ ?_ ?_ ?_⟩
      · exact ⟨g.trans (go_upd g.2 hD), by rw [upd_ne (ne_of_none e hD)]; exact e, [], upd_same, .inl ⟨rfl, rfl⟩⟩
      · intro i G' _ h
        exact SqL.of h.2.1
      · intro i x G' hix h
        obtain ⟨g', e', acc, ea, hh⟩ := h
        rcases hh with ⟨rfl, rfl⟩ | ⟨rfl, d, rfl, _, _⟩
        · cases hix
          refine ⟨rfl, _, rfl, n, rfl, fun l a' b' c' hl => ?_⟩
          have hlD : D ≠ l := fun z => by rw [← z, ea] at hl; cases hl
          have hlc : c ≠ l := fun z => by rw [← z, e'] at hl; cases hl
          have hcD : c ≠ D := fun z => by rw [z, hD] at e; cases e
          refine ⟨[], by rw [upd_ne hlD]; exact ea, by decide, ?_, ?_, ?_⟩
          · exact go_put (g'.trans (go_upd g'.2 hl)) (fresh_of g hD) (by rw [upd_ne hlD]; exact ea)
          · rw [upd_ne hcD, upd_ne hlc]
            exact e'
          · exact ⟨_, upd_same, .inr ⟨rfl, l, rfl, ⟨_, by rw [upd_ne (Ne.symm hlD)]; exact upd_same, _, _, _, rfl⟩, hlD⟩⟩
        · cases hix
      · intro G' h
        obtain ⟨g', e', acc, ea, hh⟩ := h
        rcases hh with ⟨h0, _⟩ | ⟨_, d, rfl, hd, hne⟩
        · cases h0
        · exact k1 _ _ _ g' ea hd hne
    cases xs with
    | nil =>
      refine ⟨_, _, .lst (SqL.of (e1 _)) .nil, .lst (SqL.of upd_same) .nil, by decide, by decide, _, rfl, ?_⟩
      refine iteT ⟨by decide, fun r hr' => ?_⟩
      exact last 0 _ r (g2.trans (go_upd g2.2 hr')) upd_same
    | cons x0 xr =>
      obtain ⟨n, rfl⟩ := hi x0 (List.mem_cons_self ..)
      refine ⟨_, _, .lst (SqL.of (e1 _)) (.cons (.int n) .nil), .lst (SqL.of upd_same) .nil, rfl, by decide, _, rfl, ?_⟩
      refine iteF ?_
      exact last n _ p g2 (e1 _)
end
end K1
end Text_K1i
section Text_K1j
set_option Elab.async false
set_option linter.all false
set_option maxRecDepth 100000
set_option maxHeartbeats 4000000
namespace K1
open PySem PySem.Spec PyProof.Rows L2 Gx GxR
def sgAt (i : Nat) : Nat := sigT.cps.toList.getD i 0
/-- the places of a sign among the first so many -/
def plc (c : Nat) (i : Nat) : List Nat := (List.range i).filter fun j => sgAt j == c
theorem plc_all : ∀ i < 92, plc (sgAt i) 92 = [i] ∧ Txt.find sigT ⟨#[sgAt i]⟩ = (i : Int) := by decide +kernel
theorem sig_size : sigT.cps.toList.length = 92 := by
  rw [Array.length_toList]
  exact sig_len
theorem sig_get {i : Nat} (h : i < 92) : sigT.cps[i]? = some (sgAt i) := by
  unfold sgAt
  rw [← Array.getElem?_toList, List.getD_eq_getElem?_getD, List.getElem?_eq_getElem (by rw [sig_size]; exact h)]
  rfl
theorem plc_good {c : Nat} (h : c ∈ sigT.cps.toList) : ∃ i, i < 92 ∧ plc c 92 = [i] ∧ Txt.find sigT ⟨#[c]⟩ = (i : Int) := by
  obtain ⟨i, hi, e⟩ := List.mem_iff_getElem.mp h
  have hi2 : i < 92 := by rw [sig_size] at hi; exact hi
  have e2 : sgAt i = c := by
    unfold sgAt
    rw [List.getD_eq_getElem?_getD, List.getElem?_eq_getElem hi, e]
    rfl
  obtain ⟨a, b⟩ := plc_all i hi2
  rw [e2] at a b
  exact ⟨i, hi2, a, b⟩
theorem plc_succ (c i : Nat) : plc c (i + 1) = if sgAt i = c then plc c i ++ [i] else plc c i := by
  unfold plc
  rw [List.range_succ, List.filter_append, List.filter_cons, List.filter_nil]
  by_cases h : sgAt i = c
  · simp [h]
  · simp [h]
theorem plc_len (c : Nat) : ∀ i, (plc c i).length ≤ i := fun i => by
  unfold plc
  exact Nat.le_trans (List.length_filter_le ..) (by rw [List.length_range]; exact Nat.le_refl _)
def spLNum (T : Tb) : Sp := fun vs H Q _ => ∃ z, vs = [.str z] ∧ good z ∧ TOk T H ∧ ∀ H', Go T H H' → Q (.int (numberOf z.cps.toList)) H'
section
variable {P : Program} {w : World} {K : PySem.W.Frag} {mg : Str → Option Value} {base : Heap} {T : Tb} {CS cc ci cs : Addr}
theorem iteT' {c A B : Prop} [Decidable c] (h : c) (a : A) : if c then A else B := by rw [if_pos h]; exact a
theorem scLN : FnScope ["text", "found", "sign", "place"] ["text"] (defScope sLNum) := ⟨rfl, rfl, rfl, by decide +kernel, rfl, by decide +kernel, by decide +kernel⟩
theorem ok_lnum {f : Addr} {fd : FuncData} (F : Fun K "_law_number" "_law_number" sLNum f fd) (X : Tx K mg base T CS cc ci cs) : FnOk P w K mg base CX0 1 f fd ["text"] (spLNum T) := by
  refine F.ok scLN (fun vs H Q E h => ?_) (fun cdv A outer s H vs Q E hr h => ?_)
  · obtain ⟨z, rfl, _⟩ := h
    rfl
  · obtain ⟨z, rfl, hg, tk, k1⟩ := h
    obtain ⟨t0, hsig⟩ := X.sig
    refine ⟨_, pss_cons (ps_set (i := 1) scLN.nd rfl (Or.inl rfl) pe_int)
      (pss_cons (ps_for PassesOwn.never rfl (pi_str (pv 0)) (pg_name (i := 2) scLN.nd rfl (Or.inr rfl))
        (pss_one (ps_set (i := 1) scLN.nd rfl (Or.inl rfl) (pe_op op_mod (pe_op op_add (pe_op op_add (pe_op op_mul (pv 1) pe_int)
          (pe_ix ix_list (pe_lc (own := [("place", 3)]) (g := gName 3) rfl scLN.nd (pi_range1 rfl X.range (pa_cons (pe_callB call_len_str (by rfl) X.len PySem.boot_len (pa_cons (pe_glob (v := .str sigT) rfl hsig ⟨_, rfl⟩) pa_nil)) pa_nil)) (blkOk_by (N := ["text", "found", "sign", "place"]) (sc := defScope sLNum) (by decide +kernel)) (fun _ _ _ _ _ => pg_name (i := 3) scLN.nd rfl (Or.inl rfl)) (fun _ _ _ _ _ => pts_one (pt_cmpR op_eq (pe_item_str (pe_glob (v := .str sigT) rfl hsig ⟨_, rfl⟩) (pv 3) (fun _ _ => rfl)) (pv 2) (nomark _)))
            (fun _ _ _ _ _ => pv 3)) pe_int (fun _ _ => rfl))) pe_int) pe_int))))
      (pss_one (ps_ret (pv 1)))), ?_⟩
    refine ⟨_, rfl, z, rfl, for_turns z.cps.size (fun i σ H' => Go T H H' ∧ ∃ v u, σ = [some (.str z), some (.int (numberOf (z.cps.toList.take i))), v, u]) ⟨Go.refl tk, none, none, rfl⟩ (fun i σ H' hi p => ⟨hi, fun x H2 y => ?_⟩) fun σ H' p => ⟨Nat.le_refl _, ?_⟩⟩
    · obtain ⟨g, v, u, rfl⟩ := p
      obtain ⟨rfl, c, hc, rfl⟩ := y
      have nb := number_lt (z.cps.toList.take i)
      refine ⟨_, rfl, _, _, rfl, rfl, .inl ⟨by omega, by omega⟩, ?_⟩
      have sl : sigT.length ≤ sizeLine := by
        show sigT.cps.size ≤ sizeLine
        rw [sig_len]
        decide
      obtain ⟨pi, hpi, ep, ef⟩ := plc_good (hg c (List.mem_of_getElem? (cps_at hc)))
      refine ⟨sigT, rfl, sl, 92, by rw [show sigT.length = 92 from sig_len]; rfl, by decide, by decide, fun D hD => lc_range (lo := 0) (n := 92) (fun j G => Go T H G ∧ G D = some (.lst ((plc c j).map fun p : Nat => V.int (p : Int)))) ?_ ?_ ?_⟩
      · exact ⟨g.trans (go_upd g.2 hD), upd_same⟩
      · intro j G hj h
        obtain ⟨g', eD⟩ := h
        have e0 : (0 + (j : Int)) = (j : Int) := Int.zero_add _
        have lj : (0 + (j : Int)) < ((sigT.length : Nat) : Int) := by rw [show sigT.length = 92 from sig_len]; omega
        have gj : sigT.cps[(0 + (j : Int)).toNat]? = some (sgAt j) := by rw [e0, Int.toNat_natCast]; exact sig_get hj
        refine ⟨rfl, _, rfl, sigT, (0 + (j : Int)), sgAt j, rfl, rfl, by omega, by omega, lj, gj, _, rfl, rfl, _, rfl, ?_⟩
        have hpl := plc_len c j
        have hsz : j < sizeLine := by rw [sizeLine_eq]; omega
        by_cases hc2 : sgAt j = c
        · refine iteT' (by rw [hc2]; simp) ⟨_, rfl, _, eD, by rw [List.length_map]; omega, go_put g' (fresh_of g hD) eD, ?_⟩
          rw [upd_same, plc_succ, if_pos hc2, List.map_append, e0]
          rfl
        · refine iteF' (by simp; exact fun q => hc2 (by simpa using q)) ⟨g', ?_⟩
          rw [eD, plc_succ, if_neg hc2]
      · intro G h
        obtain ⟨g', eD⟩ := h
        rw [ep] at eD
        refine ⟨_, _, _, _, rfl, rfl, SqL.of eD, rfl, _, _, rfl, rfl, _, _, rfl, rfl, _, _, rfl, rfl, (by show (0 : Int) < 2305843009213693951; decide), g', some (.str ⟨#[c]⟩), u, ?_⟩
        rw [number_take (cps_at hc)]
        unfold stepN
        rw [ef]
        rfl
    · obtain ⟨g, v, u, rfl⟩ := p
      refine ⟨_, rfl, ?_⟩
      rw [List.take_of_length_le (by simp)]
      exact k1 _ g
end
end K1
end Text_K1j
section Text_K1k
set_option Elab.async false
set_option linter.all false
set_option maxRecDepth 100000
set_option maxHeartbeats 4000000
namespace K1
open PySem PySem.Spec PyProof.Rows L2 Gx GxR
def spLDig (T : Tb) : Sp := fun vs H Q _ => ∃ z, vs = [.str z] ∧ good z ∧ TOk T H ∧ ∀ H', Go T H H' → Q (.str (digestOf z)) H'
section
variable {P : Program} {w : World} {K : PySem.W.Frag} {mg : Str → Option Value} {base : Heap} {T : Tb} {CS cc ci cs : Addr}
theorem scLD : FnScope ["text", "number", "found"] ["text"] (defScope sLDig) := ⟨rfl, rfl, rfl, by decide +kernel, rfl, by decide +kernel, by decide +kernel⟩
theorem ok_ldig {f fN : Addr} {fd fdN : FuncData} (F : Fun K "_law_digest" "_law_digest" sLDig f fd) (X : Tx K mg base T CS cc ci cs) (GN : FnOk P w K mg base CX0 1 fN fdN ["text"] (spLNum T)) (mN : mg "_law_number" = some (.ref fN))
    (kN : PySem.W.keepIn K (.ref fN) = true) (bN : Binds K fdN ["text"] []) : FnOk P w K mg base CX0 2 f fd ["text"] (spLDig T) := by
  refine F.ok scLD (fun vs H Q E h => ?_) (fun cdv A outer s H vs Q E hr h => ?_)
  · obtain ⟨z, rfl, _⟩ := h
    rfl
  · obtain ⟨z, rfl, hg, tk, k1⟩ := h
    refine ⟨_, pss_cons (ps_par (i := 1) (j := 2) rfl scLD.nd rfl rfl (by decide) rfl rfl (pa_cons (pe_call GN hr rfl mN kN bN .nil pass0 (pa_cons (pv 0) pa_nil)) (pa_cons pe_str pa_nil)) (by rfl))
      (pss_cons (ps_while PassesOwn.never (pt_cmpR op_lt (pe_callB call_len_str (by rfl) X.len PySem.boot_len (pa_cons (pv 2) pa_nil)) pe_int (nomark _))
        (pss_one (ps_par (i := 1) (j := 2) rfl scLD.nd rfl rfl (by decide) rfl rfl (pa_cons (pe_op op_fdiv (pv 1) pe_int) (pa_cons (pe_op op_add_str (pe_item_str pe_str (pe_op op_mod (pv 1) pe_int) (fun _ _ => rfl)) (pv 2)) pa_nil)) (by rfl))))
      (pss_one (ps_ret (pv 2)))), ?_⟩
    refine ⟨_, rfl, z, rfl, hg, tk, fun H1 g1 => ⟨_, _, rfl, ?_⟩⟩
    refine ⟨fun m σ H' => Go T H H' ∧ ∃ i, i + m = 10 ∧ σ = [some (.str z), some (.int (stD (numberOf z.cps.toList) i).1), some (.str (tx (stD (numberOf z.cps.toList) i).2))], ⟨10, g1, 0, rfl, rfl⟩, ?_⟩
    intro m σ H' p
    obtain ⟨g, i, hi, rfl⟩ := p
    have hl : (tx (stD (numberOf z.cps.toList) i).2).length = i := by rw [tx_len, stD_len]
    have hm := mod26 (stD (numberOf z.cps.toList) i).1
    have hsz : i + 1 ≤ sizeLine := by rw [sizeLine_eq]; omega
    refine ⟨_, rfl, _, rfl, by omega, _, _, rfl, rfl, _, rfl, ?_⟩
    rw [hl]
    by_cases h10 : i < 10
    · refine iteT' (by simp; omega) ⟨fun σ' H'' => Go T H H'' ∧ ∃ j, j + (m - 1) = 10 ∧ σ' = [some (.str z), some (.int (stD (numberOf z.cps.toList) j).1), some (.str (tx (stD (numberOf z.cps.toList) j).2))], fun σ' H'' q => ⟨m - 1, by omega, q⟩, ?_⟩
      refine ⟨_, rfl, _, _, rfl, rfl, ⟨by decide, by decide⟩, _, rfl, _, _, rfl, rfl, (by show (0 : Int) < 26; decide), letT, _, letAt (stD (numberOf z.cps.toList) i).1, rfl, rfl, hm.1, by omega, ?_, let_get _, _, rfl, _, _, rfl, rfl, ?_, _, _, rfl, g, i + 1, by omega, ?_⟩
      · show (stD (numberOf z.cps.toList) i).1 % 26 < ((letT.cps.size : Nat) : Int)
        rw [let_len]
        exact hm.2
      · rw [tx_len, stD_len]
        show 1 + i ≤ sizeLine
        omega
      · rw [tx_cons]
        rfl
    · have e10 : i = 10 := by omega
      subst e10
      exact iteF' (by simp) ⟨_, rfl, k1 _ g⟩
end
end K1
end Text_K1k
section Text_K1l
set_option Elab.async false
set_option linter.all false
set_option maxRecDepth 100000
set_option maxHeartbeats 4000000
namespace K1
open PySem PySem.Spec PyProof.Rows L2 Gx GxR
def leS (a b : Str) : Prop := a.cps.toList ≤ b.cps.toList
instance (a b : Str) : Decidable (leS a b) := by unfold leS; infer_instance
theorem leS_refl (a : Str) : leS a a := List.le_refl _
theorem leS_trans {a b c : Str} (h : leS a b) (k : leS b c) : leS a c := List.le_trans h k
theorem leS_total (a b : Str) : leS a b ∨ leS b a := List.le_total _ _
theorem leS_anti {a b : Str} (h : leS a b) (k : leS b a) : a = b := by
  have e := List.le_antisymm h k
  rw [← tx_of a, ← tx_of b, e]
theorem le_of_rise {a b : Str} (h : (!ltCps b.cps.toList a.cps.toList) = true) : leS a b := by
  rw [ltCps_eq] at h
  simp at h
  exact h
theorem rise_pw : ∀ (l : List Str) (p : Str), risingS p l = true → (p :: l).Pairwise leS
  | [], p, _ => List.pairwise_singleton ..
  | x :: r, p, h => by
    have h' := Bool.and_eq_true_iff.mp h
    have ih := rise_pw r x h'.2
    have le := le_of_rise h'.1
    refine List.pairwise_cons.mpr ⟨fun y hy => ?_, ih⟩
    rcases List.mem_cons.mp hy with e | hy
    · rw [e]; exact le
    · exact leS_trans le ((List.pairwise_cons.mp ih).1 y hy)
theorem sorted_pw (l : List Str) (h : sortedS l = true) : l.Pairwise leS := by
  cases l with
  | nil => exact List.Pairwise.nil
  | cons x r => exact rise_pw r x h
/-- texts in order -/
def srt (l : List Str) : List Str := l.mergeSort fun a b => decide (leS a b)
theorem srt_pw (l : List Str) : (srt l).Pairwise leS := by
  have := List.pairwise_mergeSort (le := fun a b => decide (leS a b)) (fun a b c h k => decide_eq_true (leS_trans (of_decide_eq_true h) (of_decide_eq_true k))) (fun a b => by
    rcases leS_total a b with h | h
    · simp [h]
    · simp [h]) l
  exact this.imp fun h => of_decide_eq_true h
theorem srt_perm (l : List Str) : (srt l).Perm l := List.mergeSort_perm l _
theorem srt_eq {ys xs : List Str} (p : ys.Perm xs) (h : sortedS ys = true) : ys = srt xs :=
  List.Perm.eq_of_pairwise (le := leS) (fun a b _ _ x y => leS_anti x y) (sorted_pw _ h) (srt_pw _) (p.trans (srt_perm xs).symm)
end K1
end Text_K1l
section Text_K1m
set_option Elab.async false
set_option linter.all false
set_option maxRecDepth 100000
set_option maxHeartbeats 4000000
namespace K1
open PySem PySem.Spec PyProof.Rows L2 Gx GxR
/-- texts in order, a row each -/
def rowsT (xs : List Str) : Str := Txt.join "\n" (srt xs)
def small (xs : List Str) : Prop := xs.length < 64 ∧ ∀ x ∈ xs, x.length ≤ 1000
instance (xs : List Str) : Decidable (small xs) := by unfold small; infer_instance
theorem sum_le {α : Type} (f : α → Nat) (b : Nat) : ∀ l : List α, (∀ x ∈ l, f x ≤ b) → (l.map f).sum ≤ l.length * b
  | [], _ => by simp
  | x :: r, h => by
    have h1 := h x (List.mem_cons_self ..)
    have h2 := sum_le f b r fun y hy => h y (List.mem_cons_of_mem _ hy)
    rw [List.map_cons, List.sum_cons, List.length_cons, Nat.succ_mul]
    omega
theorem small_sum {ys xs : List Str} (p : ys.Perm xs) (h : small xs) : (ys.map (·.length)).sum + ys.length * ("\n" : Str).length ≤ 16777216 := by
  have h1 := sum_le (fun x : Str => x.length) 1000 ys fun x hx => h.2 x (p.mem_iff.mp hx)
  have h2 : ys.length < 64 := by rw [p.length_eq]; exact h.1
  have h3 : ("\n" : Str).length = 1 := rfl
  rw [h3]
  have : (ys.map fun x : Str => x.length).sum ≤ 64 * 1000 := Nat.le_trans h1 (Nat.mul_le_mul_right _ (by omega))
  omega
def spSum (K : PySem.W.Frag) (T : Tb) (CS : Addr) : Sp := fun vs H Q E => ∃ (a : Addr) (xs : List Str), vs = [.ref a] ∧ SqL K H a (xs.map V.str) ∧ small xs ∧ TOk T H ∧ (good (rowsT xs) → ∀ H', Go T H H' → Q (.str (digestOf (rowsT xs))) H') ∧ (¬ good (rowsT xs) → ∀ H', Go T H H' → E (.ref CS) none H')
section
variable {P : Program} {w : World} {K : PySem.W.Frag} {mg : Str → Option Value} {base : Heap} {T : Tb} {CS cc ci cs : Addr}
theorem scSu : FnScope ["names"] ["names"] (defScope sSum) := ⟨rfl, rfl, rfl, by decide +kernel, rfl, by decide +kernel, by decide +kernel⟩
theorem ok_sum {f fN : Addr} {fd fdN : FuncData} (F : Fun K "sum_of" "sum_of" sSum f fd) (X : Tx K mg base T CS cc ci cs) (GN : FnOk P w K mg base (L2.CX P w) 5 fN fdN ["text"] (spDigest T CS)) (mN : mg "digest" = some (.ref fN))
    (kN : PySem.W.keepIn K (.ref fN) = true) (bN : Binds K fdN ["text"] []) : FnOk P w K mg base (L2.CX P w) 6 f fd ["names"] (spSum K T CS) := by
  refine F.okX scSu (fun vs H Q E h => ?_) (fun cdv A outer s H vs Q E hr h => ?_)
  · obtain ⟨a, xs, rfl, _⟩ := h
    rfl
  · obtain ⟨a, xs, rfl, hs, hsm, tk, k1, k2⟩ := h
    refine ⟨_, pss_one (ps_ret (pe_call GN hr rfl mN kN bN .nil (passes_call (takes_of rfl rfl rfl rfl) (fun _ _ _ _ e => e)) (pa_cons (pe_join pe_str (pe_callB cr_sortedS (by rfl) X.sorted (by decide +kernel) (pa_cons (pv 0) pa_nil))) pa_nil))), ?_⟩
    refine ⟨⟨_, rfl⟩, _, rfl, a, xs, rfl, hs, hsm.1, fun ys p pm so hp => ?_⟩
    have e := srt_eq pm so
    refine ⟨_, _, ys, rfl, rfl, .inl (SqL.of upd_same), small_sum pm hsm, _, rfl, (go_upd tk hp).2, ?_, ?_⟩
    all_goals rw [show Txt.join "\n" ys = rowsT xs by rw [e]; rfl]
    · intro hg H' g
      exact k1 hg _ ((go_upd tk hp).trans g)
    · intro hg H' g
      exact k2 hg _ ((go_upd tk hp).trans g)
end
end K1
end Text_K1m
section Text_K1n
set_option Elab.async false
set_option linter.all false
set_option maxRecDepth 100000
set_option maxHeartbeats 4000000
namespace K1
open PySem PySem.Spec PyProof.Rows L2 Gx GxR
/-- keys, each once -/
def uniq (xs : List Str) : List Str := xs.foldl (fun l x => if x ∈ l then l else l ++ [x]) []
/-- whether another one begins so -/
def clash (xs : List Str) (n : Str) (k : Nat) : Bool := xs.any fun o => decide (o ≠ n) && decide (o.cps.toList.take k = n.cps.toList.take k)
def fewF (xs : List Str) (n : Str) : Nat → Nat → Nat
  | 0, k => k
  | f + 1, k => if clash xs n k = true then fewF xs n f (k + 1) else k
def few (xs : List Str) (n : Str) (least : Nat) : Nat := fewF xs n (10 - least) least
def cutT (n : Str) (k : Nat) : Str := tx (n.cps.toList.take k)
def shTab (xs : List Str) (least : Nat) (ns : List Str) : List (Key × V) := ns.map fun n => (Sum.inr n, V.str (cutT n (few xs n least)))
theorem uniq_snoc (l : List Str) (x : Str) : uniq (l ++ [x]) = if x ∈ uniq l then uniq l else uniq l ++ [x] := by
  unfold uniq
  rw [List.foldl_append]
  rfl
theorem uniq_take {xs : List Str} {i : Nat} {x : Str} (h : xs[i]? = some x) : uniq (xs.take (i + 1)) = if x ∈ uniq (xs.take i) then uniq (xs.take i) else uniq (xs.take i) ++ [x] := by
  rw [List.take_add_one, h]
  exact uniq_snoc _ _
theorem uniq_rev (l : List Str) : (∀ x, x ∈ uniq l.reverse ↔ x ∈ l) ∧ (uniq l.reverse).Nodup ∧ (uniq l.reverse).length ≤ l.length := by
  induction l with
  | nil => exact ⟨fun x => by simp [uniq], List.nodup_nil, Nat.le_refl _⟩
  | cons y r ih =>
    obtain ⟨i1, i2, i3⟩ := ih
    rw [List.reverse_cons, uniq_snoc]
    by_cases h : y ∈ uniq r.reverse
    · rw [if_pos h]
      refine ⟨fun x => ⟨fun m => List.mem_cons_of_mem _ ((i1 x).mp m), fun m => ?_⟩, i2, Nat.le_trans i3 (by simp)⟩
      rcases List.mem_cons.mp m with e | m
      · rw [e]; exact h
      · exact (i1 x).mpr m
    · rw [if_neg h]
      refine ⟨fun x => ?_, nd_snoc i2 h, by simp; omega⟩
      rw [List.mem_append, i1]
      simp [or_comm]
theorem mem_uniq (l : List Str) (x : Str) : x ∈ uniq l ↔ x ∈ l := by
  have := (uniq_rev l.reverse).1 x
  rw [List.reverse_reverse, List.mem_reverse] at this
  exact this
theorem uniq_nd (l : List Str) : (uniq l).Nodup := by
  have := (uniq_rev l.reverse).2.1
  rw [List.reverse_reverse] at this
  exact this
theorem uniq_len (l : List Str) : (uniq l).length ≤ l.length := by
  have := (uniq_rev l.reverse).2.2
  rw [List.reverse_reverse, List.length_reverse] at this
  exact this
/-- a dict of keys to one value -/
def keyTab (v : V) (u : List Str) : List (Key × V) := u.map fun x => (Sum.inr x, v)
theorem put_key (v : V) (u : List Str) (x : Str) : putK (keyTab v u) (Sum.inr x) v = keyTab v (if x ∈ u then u else u ++ [x]) := by
  unfold putK keyTab
  by_cases h : x ∈ u
  · rw [if_pos h, if_pos (by rw [List.any_eq_true]; exact ⟨(Sum.inr x, v), List.mem_map.mpr ⟨x, h, rfl⟩, by simp⟩), List.map_map]
    refine List.map_congr_left fun y _ => ?_
    show (if (Sum.inr y : Key) = Sum.inr x then ((Sum.inr y : Key), v) else (Sum.inr y, v)) = (Sum.inr y, v)
    split <;> rfl
  · rw [if_neg h, if_neg (by
      rw [List.any_eq_true]
      rintro ⟨p, hp, e⟩
      obtain ⟨y, hy, rfl⟩ := List.mem_map.mp hp
      have e' := of_decide_eq_true e
      exact h (by rw [← Sum.inr.inj e']; exact hy)), List.map_append]
    rfl
theorem put_new {κ : Type} [DecidableEq κ] (l : List (κ × V)) (k : κ) (v : V) (h : k ∉ l.map (·.1)) : putK l k v = l ++ [(k, v)] := by
  unfold putK
  rw [if_neg]
  rw [List.any_eq_true]
  rintro ⟨p, hp, e⟩
  exact h (List.mem_map.mpr ⟨p, hp, of_decide_eq_true e⟩)
def namesOk (xs : List Str) : Prop := ∀ x ∈ xs, isName x = true
instance (xs : List Str) : Decidable (namesOk xs) := by unfold namesOk; infer_instance
def spShort (K : PySem.W.Frag) (T : Tb) (CS : Addr) : Sp := fun vs H Q E => ∃ (a : Addr) (xs : List Str) (least : Int), vs = [.ref a, .int least] ∧ SqL K H a (xs.map V.str) ∧ small xs ∧ TOk T H ∧
  (1 ≤ least ∧ least ≤ 10 ∧ namesOk xs → ∀ H' d, Go T H H' → H' d = some (.dK (shTab xs least.toNat (srt (uniq xs)))) → Q (.ref d) H') ∧ (¬ (1 ≤ least ∧ least ≤ 10 ∧ namesOk xs) → ∀ H', Go T H H' → E (.ref CS) none H')
theorem isName_len {x : Str} (h : isName x = true) : x.cps.toList.length = 10 := by
  have h1 := (Bool.and_eq_true_iff.mp h).1
  have h2 : x.length = 10 := of_decide_eq_true h1
  rw [Array.length_toList]
  exact h2
theorem clash_ten {xs : List Str} {n : Str} (h : namesOk xs) (hn : n ∈ xs) : clash xs n 10 = false := by
  unfold clash
  rw [List.any_eq_false]
  intro o ho q
  have q' := Bool.and_eq_true_iff.mp q
  have q1 := of_decide_eq_true q'.1
  have q2 := of_decide_eq_true q'.2
  rw [List.take_of_length_le (by rw [isName_len (h o ho)]; exact Nat.le_refl _), List.take_of_length_le (by rw [isName_len (h n hn)]; exact Nat.le_refl _)] at q2
  exact q1 (by rw [← tx_of o, ← tx_of n, q2])
theorem few_step {xs : List Str} {n : Str} {k : Nat} (hk : k < 10) (h : clash xs n k = true) : fewF xs n (10 - k) k = fewF xs n (10 - (k + 1)) (k + 1) := by
  obtain ⟨f, e⟩ : ∃ f, 10 - k = f + 1 := ⟨9 - k, by omega⟩
  rw [e, show 10 - (k + 1) = f by omega]
  show (if clash xs n k = true then fewF xs n f (k + 1) else k) = _
  rw [if_pos h]
theorem few_end {xs : List Str} {n : Str} {k : Nat} (h : clash xs n k = false) : fewF xs n (10 - k) k = k := by
  cases e : 10 - k with
  | zero => rfl
  | succ f =>
    show (if clash xs n k = true then fewF xs n f (k + 1) else k) = _
    rw [h]
    rfl
theorem few_le {xs : List Str} {n : Str} : ∀ (f k : Nat), fewF xs n f k ≤ k + f
  | 0, k => Nat.le_refl _
  | f + 1, k => by
    show (if clash xs n k = true then fewF xs n f (k + 1) else k) ≤ _
    split
    · exact Nat.le_trans (few_le f (k + 1)) (by omega)
    · omega
theorem cut_eq {n : Str} {k : Nat} (hn : n.cps.toList.length = 10) (hk : k ≤ 10) : cutS n none (some (k : Int)) = cutT n k := by
  have hl : n.length = 10 := by rw [← hn, Array.length_toList]; rfl
  unfold cutS cutT
  rw [HT.sIx_none, HT.sIx_nat, hl, List.drop_zero, Nat.min_eq_left hk, Nat.sub_zero]
  rfl
theorem starts_eq {o n : Str} {k : Nat} (ho : o.cps.toList.length = 10) (hn : n.cps.toList.length = 10) (hk : k ≤ 10) : Txt.startswith o (cutT n k) = decide (o.cps.toList.take k = n.cps.toList.take k) := by
  have hl : o.length = 10 := by rw [← ho, Array.length_toList]; rfl
  have hc : (cutT n k).length = k := by unfold cutT; rw [tx_len, List.length_take, hn]; omega
  have hc2 : (cutT n k).cps.toList = n.cps.toList.take k := by unfold cutT; rw [tx_list]
  unfold Txt.startswith
  rw [PySem.StrLaws.subAt_eq, hl, hc, hc2, List.drop_zero]
  have : (decide (0 + k ≤ 10)) = true := by simp; exact hk
  rw [this, Bool.true_and, Bool.eq_iff_iff]
  simp
end K1
end Text_K1n
section Text_K1o
set_option Elab.async false
set_option linter.all false
set_option maxRecDepth 100000
set_option maxHeartbeats 4000000
namespace K1
open PySem PySem.Spec PyProof.Rows L2 Gx GxR
section
variable {P : Program} {w : World} {K : PySem.W.Frag} {mg : Str → Option Value} {base : Heap} {T : Tb} {CS cc ci cs : Addr}
theorem str_at {xs : List Str} {i : Nat} {x : V} (h : (xs.map V.str)[i]? = some x) : ∃ n, xs[i]? = some n ∧ x = .str n := by
  rw [List.getElem?_map] at h
  cases e : xs[i]? with
  | none => rw [e] at h; cases h
  | some n =>
    rw [e] at h
    exact ⟨n, rfl, (Option.some.inj h).symm⟩
theorem nd_take {α : Type} {l : List α} {i : Nat} {x : α} (h : l.Nodup) (e : l[i]? = some x) : x ∉ l.take i := fun m => by
  obtain ⟨j, hj, ej⟩ := List.mem_iff_getElem.mp m
  rw [List.length_take] at hj
  have hi := (List.getElem?_eq_some_iff.mp e).1
  have e2 : l[j]? = some x := by
    rw [List.getElem_take] at ej
    rw [List.getElem?_eq_getElem (by omega), ej]
  have := nd_ix h e2 e
  omega
theorem scSh : FnScope ["names", "least", "found", "name", "size", "other"] ["names", "least"] (defScope sShort) := ⟨rfl, rfl, rfl, by decide +kernel, rfl, by decide +kernel, by decide +kernel⟩
theorem ok_short {f fI : Addr} {fd fdI : FuncData} (F : FunC K "shortest" "shortest" sShort f cs fd) (X : Tx K mg base T CS cc ci cs) (GI : FnOk P w K mg base CX0 3 fI fdI ["text"] (spIsName T)) (mI : mg "is_name" = some (.ref fI))
    (kI : PySem.W.keepIn K (.ref fI) = true) (bI : Binds K fdI ["text"] []) : FnOk P w K mg base (L2.CX P w) 5 f fd ["names", "least"] (spShort K T CS) := by
  refine F.okX scSh (fun vs H Q E h => ?_) (fun A outer s H vs Q E hr h => ?_)
  · obtain ⟨a, xs, least, rfl, _⟩ := h
    rfl
  · obtain ⟨a, xs, least, rfl, hs, hsm, tk, k1, k2⟩ := h
    obtain ⟨t1, hsz⟩ := X.size
    have hu1 : (A.deeper (envOfC "shortest" (defScope sShort) s.heap.objs.size f (.ref cs))).units + 1 < cLine := by have h := hu_of hr; omega
    refine ⟨_, pss_cons (ps_if (PW.pt (pw_or (pt_not (pt_chain op_le op_le pe_int (pv 1) (pe_glob (v := .int 10) rfl hsz ⟨_, rfl⟩)))
        (pw_or1 (pt_val (pe_anyG (own := [("name", 3)]) (k := 3) hr rfl X.any X.bs rfl scSh.nd (gOk_by (N := ["names", "least", "found", "name", "size", "other"]) (sc := defScope sShort) (by decide +kernel)) (pi_list (pv 0)) (fun _ _ _ _ _ _ => pg_name (i := 3) scSh.nd rfl (Or.inl rfl)) (fun _ _ _ _ _ _ _ => pts_nil)
          (fun _ _ _ _ _ _ hr' => pe_not (pe_call GI hr' rfl mI kI bI .nil pass0 (pa_cons (pv 3) pa_nil))))))))
        (pss_one (ps_raise rfl (takes_of rfl rfl rfl rfl) (pmk_own PySem.F.excBase_ValueError X.xC X.gC X.kC (raises_own X.bC X.tC) rfl))) pss_nil)
      (pss_cons (ps_set (i := 2) scSh.nd rfl (Or.inl rfl) pe_dnewK)
      (pss_cons (ps_for (passes_of rfl) rfl (pi_list (pe_callB (call_sortedD rfl) (by rfl) X.sorted (by decide +kernel) (pa_cons (pe_dc (own := [("name", 3)]) (g := gName 3) rfl scSh.nd (pi_list (pv 0)) (blkOk_by (N := ["names", "least", "found", "name", "size", "other"]) (sc := defScope sShort) (by decide +kernel)) (fun _ _ _ _ _ => pg_name (i := 3) scSh.nd rfl (Or.inl rfl)) (fun _ _ _ _ _ => pts_nil)
          (fun _ _ _ _ _ => pv 3) (fun _ _ _ _ _ => pe_bl)) pa_nil))) (pg_name (i := 3) scSh.nd rfl (Or.inr rfl))
        (pss_cons (ps_set (i := 4) scSh.nd rfl (Or.inr rfl) (pv 1))
        (pss_cons (ps_while (passes_of rfl) (pt_val (pe_anyG (own := [("other", 5)]) (k := 3) hr rfl X.any X.bs rfl scSh.nd (gOk_by (N := ["names", "least", "found", "name", "size", "other"]) (sc := defScope sShort) (by decide +kernel)) (pi_list (pv 0)) (fun _ _ _ _ _ _ => pg_name (i := 5) scSh.nd rfl (Or.inl rfl)) (fun _ _ _ _ _ _ _ => pts_nil)
            (fun _ _ _ _ _ _ hr' => pe_and (pe_cmpR op_ne (pv 5) (pv 3) (nomark _)) (pe_one (pe_m1 PySem.F.slot_str_startswith PySem.F.type_str_startswith mt_startswith (pv 5) (pe_slice sl_str (pv 3) po_none (po_some (pv 4)))))))) (pss_one (ps_aug (i := 4) scSh.nd rfl (Or.inr rfl) pe_int ip_add)))
        (pss_one (ps_dput hu1 (pv 2) (pv 3) (pe_slice sl_str (pv 3) po_none (po_some (pv 4))) rfl)))))
      (pss_one (ps_ret (pv 2))))), ?_⟩
    refine ⟨_, rfl, _, _, rfl, rfl, _, rfl, ?_⟩
    by_cases h1 : 1 ≤ least
    case neg => exact iteF' (by simpa using h1) ⟨_, rfl, k2 (fun h => h1 h.1) _ (Go.refl tk)⟩
    refine iteT' (by simpa using h1) ⟨_, _, rfl, rfl, _, rfl, ?_⟩
    by_cases h2 : least ≤ 10
    case neg => exact iteT' (by simpa using h2) (k2 (fun h => h2 h.2.1) _ (Go.refl tk))
    refine iteF' (by simpa using h2) ⟨_, rfl, a, rfl, ⟨_, hs⟩, tk.s, fun H2 tb => any_texts (fun G => Go T H G) (fun x => !isName x) (tabbed_go tk tk.ns tk.s tb) (fun G g => g.seq hs)
      (fun x hx G Q' g q => ⟨_, rfl, x, rfl, hsm.2 x hx, g.2, fun G' g' => ⟨_, rfl, q G' (g.trans g')⟩⟩) fun H1 g1 => ⟨_, rfl, ?_⟩⟩
    by_cases h3 : namesOk xs
    case neg => exact iteT' (by
        refine Classical.byContradiction fun q => h3 fun x hx => ?_
        have q2 := List.any_eq_false.mp (Bool.not_eq_true _ ▸ q) x hx
        simpa using q2) (k2 (fun h => h3 h.2.2) _ g1)
    refine iteF' (by
      rw [Bool.not_eq_true, List.any_eq_false]
      intro x hx
      rw [h3 x hx]
      decide) ?_
    obtain ⟨m, rfl⟩ : ∃ m : Nat, least = (m : Int) := ⟨least.toNat, by omega⟩
    have hm1 : 1 ≤ m := by omega
    have hm2 : m ≤ 10 := by omega
    have kk := k1 ⟨h1, h2, h3⟩
    rw [Int.toNat_natCast] at kk
    clear k1 k2
    refine fun d hd => ?_
    have gd : Go T H (upd H1 d (.dK [])) := g1.trans (go_upd g1.2 hd)
    have fd' : Fresh H d := fresh_of g1 hd
    refine ⟨_, rfl, a, rfl, ⟨_, gd.seq hs⟩, fun D hD => dc_list (xs := xs.map V.str) (fun i G => Go T H G ∧ G d = some (.dK []) ∧ D ≠ d ∧ G D = some (.dK (keyTab (.bl true) (uniq (xs.take i))))) ?_ ?_ ?_ ?_⟩
    · have dD : d ≠ D := fun e => by rw [← e, upd_same] at hD; cases hD
      exact ⟨gd.trans (go_upd gd.2 hD), by rw [upd_ne dD]; exact upd_same, Ne.symm dD, upd_same⟩
    · intro i G _ h
      exact h.1.seq hs
    · intro i x G hix h
      obtain ⟨g, ed, hne, eD⟩ := h
      obtain ⟨n, hn, rfl⟩ := str_at hix
      have hul : (uniq (xs.take i)).length < sizeLine := by
        have q1 := uniq_len (xs.take i)
        have q2 : (xs.take i).length ≤ xs.length := by rw [List.length_take]; omega
        have q3 := hsm.1
        rw [sizeLine_eq]
        omega
      refine ⟨rfl, _, rfl, _, Sum.inr n, rfl, eD, by unfold keyTab; rw [List.length_map]; exact hul, go_put g (fresh_of gd hD) eD, by rw [upd_ne (Ne.symm hne)]; exact ed, hne, ?_⟩
      rw [upd_same, put_key, uniq_take hn]
    · intro G ⟨g, ed, hne, eD⟩
      rw [show xs.take (xs.map V.str).length = xs by rw [List.length_map]; exact List.take_length] at eD
      have q1 := uniq_len xs
      have q3 := hsm.1
      refine ⟨D, _, uniq xs, rfl, Rd.of eD, by unfold keyTab; rw [List.map_map]; rfl, by omega, fun ys p pm so hp => ?_⟩
      have ey := srt_eq pm so
      have ynd : ys.Nodup := pm.nodup_iff.mpr (uniq_nd xs)
      have yin : ∀ y ∈ ys, y ∈ xs := fun y hy => (mem_uniq xs y).mp (pm.mem_iff.mp hy)
      have ylen : ys.length ≤ 64 := by rw [pm.length_eq]; omega
      rw [← ey] at kk
      have gp : Go T H (upd G p (.lst (ys.map V.str))) := g.trans (go_upd g.2 hp)
      have hdp : d ≠ p := fun e => by rw [← e, ed] at hp; cases hp
      refine ⟨p, rfl, ⟨_, SqL.of upd_same⟩, for_list (xs := ys.map V.str) (fun i σ G' => Go T H G' ∧ G' p = some (.lst (ys.map V.str)) ∧ G' d = some (.dK (shTab xs m (ys.take i))) ∧ ∃ v3 v4 v5, σ = [some (.ref a), some (.int m), some (.ref d), v3, v4, v5]) ?_ ?_ ?_ ?_⟩
      · exact ⟨gp, upd_same, by rw [upd_ne hdp]; exact ed, none, none, none, rfl⟩
      · intro i σ G' _ h
        exact SqL.of h.2.1
      · intro i x σ G' hix h
        obtain ⟨g', ep', ed', v3, v4, v5, rfl⟩ := h
        obtain ⟨n, hn, rfl⟩ := str_at hix
        have nin := yin n (List.mem_of_getElem? hn)
        have n10 := isName_len (h3 n nin)
        refine ⟨_, rfl, ⟨fun q σ G2 => Go T H G2 ∧ G2 p = some (.lst (ys.map V.str)) ∧ G2 d = some (.dK (shTab xs m (ys.take i))) ∧ ∃ (k : Nat) (u5 : Option V), k + q = 10 ∧ fewF xs n (10 - k) k = few xs n m ∧ σ = [some (.ref a), some (.int m), some (.ref d), some (.str n), some (.int (k : Int)), u5],
          ⟨10 - m, g', ep', ed', m, v5, by omega, rfl, rfl⟩, fun q σ G2 pv => ?_⟩⟩
        obtain ⟨g2, ep2, ed2, k, u5, hk, hf, rfl⟩ := pv
        have kq : k ≤ 10 := by omega
        have szn : n.length ≤ sizeLine := by
          have e10 : n.length = 10 := by rw [← n10, Array.length_toList]; rfl
          rw [e10, sizeLine_eq]
          decide
        have inv : ∀ {G3 G4 : Hp}, (Go T H G3 ∧ G3 p = some (.lst (ys.map V.str)) ∧ G3 d = some (.dK (shTab xs m (ys.take i)))) → Go T G3 G4 → (Go T H G4 ∧ G4 p = some (.lst (ys.map V.str)) ∧ G4 d = some (.dK (shTab xs m (ys.take i)))) := fun h g => ⟨h.1.trans g, g.at h.2.1, g.at h.2.2⟩
        refine ⟨_, rfl, a, rfl, ⟨_, g2.seq hs⟩, g2.2.s, fun H3 tb3 => any_texts (fun G3 => Go T H G3 ∧ G3 p = some (.lst (ys.map V.str)) ∧ G3 d = some (.dK (shTab xs m (ys.take i)))) (fun o => decide (o ≠ n) && decide (o.cps.toList.take k = n.cps.toList.take k))
          (inv ⟨g2, ep2, ed2⟩ (tabbed_go g2.2 g2.2.ns g2.2.s tb3)) (fun G3 h => h.1.seq hs) (fun o ho G3 Q' h q => ?_) fun G3 h => ⟨_, rfl, ?_⟩⟩
        · refine ⟨_, rfl, _, rfl, rfl, _, rfl, ?_⟩
          have o10 := isName_len (h3 o ho)
          by_cases hon : o = n
          · refine iteF' (by rw [hon]; simp) ?_
            have := q G3 h
            rw [show (decide (o ≠ n)) = false by simp [hon], Bool.false_and] at this
            exact this
          · refine iteT' (by simpa using hon) ⟨_, rfl, ⟨_, rfl⟩, _, rfl, _, rfl, _, rfl, n, rfl, szn, o, _, rfl, rfl, ?_⟩
            have := q G3 h
            rw [show (decide (o ≠ n)) = true by simp [hon], Bool.true_and, ← starts_eq o10 n10 kq, ← cut_eq n10 kq] at this
            exact this
        · obtain ⟨g3, ep3, ed3⟩ := h
          by_cases hc : clash xs n k = true
          · have k10 : k < 10 := by
              rcases Nat.lt_or_ge k 10 with h | h
              · exact h
              · have e : k = 10 := by omega
                rw [e, clash_ten h3 nin] at hc
                cases hc
            refine iteT' hc ⟨fun σ' G' => Go T H G' ∧ G' p = some (.lst (ys.map V.str)) ∧ G' d = some (.dK (shTab xs m (ys.take i))) ∧ ∃ (k : Nat) (u5 : Option V), k + (q - 1) = 10 ∧ fewF xs n (10 - k) k = few xs n m ∧ σ' = [some (.ref a), some (.int m), some (.ref d), some (.str n), some (.int (k : Int)), u5], fun σ' G' w => ⟨q - 1, by omega, w⟩, ?_⟩
            refine ⟨_, rfl, _, _, rfl, rfl, g3, ep3, ed3, k + 1, u5, by omega, ?_, rfl⟩
            rw [← hf]
            exact (few_step k10 hc).symm
          · refine iteF' hc ?_
            have hc' : clash xs n k = false := by simpa using hc
            have hk2 : few xs n m = k := by rw [← hf]; exact few_end hc'
            have hi : i < ys.length := (List.getElem?_eq_some_iff.mp hn).1
            have hnew : (Sum.inr n : Key) ∉ (shTab xs m (ys.take i)).map (·.1) := by
              unfold shTab
              rw [List.map_map]
              intro hm
              obtain ⟨y, hy, e⟩ := List.mem_map.mp hm
              have e' : y = n := Sum.inr.inj e
              rw [e'] at hy
              exact nd_take ynd hn hy
            have hl2 : (shTab xs m (ys.take i)).length < sizeLine := by
              unfold shTab
              rw [List.length_map, List.length_take, sizeLine_eq]
              omega
            refine ⟨_, rfl, _, rfl, _, rfl, n, rfl, szn, _, rfl, _, rfl, d, _, rfl, DPut.k (k := Sum.inr n) ed3 hl2, go_put g3 fd' ed3, by rw [upd_ne (Ne.symm hdp)]; exact ep3, ?_, _, _, _, rfl⟩
            rw [upd_same, put_new _ _ _ hnew, cut_eq n10 kq, List.take_add_one, hn]
            unfold shTab
            rw [List.map_append]
            show some (HO.dK (_ ++ [(Sum.inr n, V.str (cutT n k))])) = some (HO.dK (_ ++ [(Sum.inr n, V.str (cutT n (few xs n m)))]))
            rw [hk2]
      · intro σ G' h
        obtain ⟨g', ep', ed', v3, v4, v5, rfl⟩ := h
        rw [show ys.take (ys.map V.str).length = ys by rw [List.length_map]; exact List.take_length] at ed'
        exact ⟨_, rfl, kk _ _ g' ed'⟩
end
end K1
end Text_K1o
section Text_K1p
set_option Elab.async false
set_option linter.all false
set_option maxRecDepth 100000
set_option maxHeartbeats 4000000
namespace L2
theorem PE.weak {X : Cx} {e : PySem.Expr} {t u : TE} (h : PE X e t) (i : ∀ σ H Q, u σ H Q → t σ H Q) : PE X e u := ⟨fun pins s σ H Q I q => h.run pins s σ H Q I (i _ _ _ q)⟩
end L2
namespace K1
open PySem PySem.Spec PyProof.Rows L2 Gx GxR LamY
/-- the lambdas that _law_plain lists -/
def lams : List Expr := match (defBody sPlain).getD 0 (.Pass ⟨0, 0, 0, 0⟩) with
  | .Assign _ (.List es _) _ => es
  | _ => []
def lamAt (j : Nat) : Expr := lams.getD j (.Constant .none 0 ⟨0, 0, 0, 0⟩)
def lamP (j : Nat) : Arguments := match lamAt j with
  | .Lambda p _ _ _ => p
  | _ => ⟨[], [], none, [], [], none, []⟩
def lamB (j : Nat) : Expr := match lamAt j with
  | .Lambda _ b _ _ => b
  | e => e
def lamSc (j : Nat) : Scope := match lamAt j with
  | .Lambda _ _ s _ => s
  | _ => defScope sPlain
theorem lams_len : lams.length = 7 := by decide +kernel
/-- the program's defs that may raise, with their promises -/
structure Raisers (P : Program) (w : World) (K : PySem.W.Frag) (mg : Str → Option Value) (base : Heap) (T : Tb) (CS fC fN fD fS fU : Addr) (fdC fdN fdD fdS fdU : FuncData) : Prop where
  GC : FnOk P w K mg base (L2.CX P w) 3 fC fdC ["text"] (spCheck T CS)
  mC : mg "check_text" = some (.ref fC)
  kC : PySem.W.keepIn K (.ref fC) = true
  bC : Binds K fdC ["text"] []
  GN : FnOk P w K mg base (L2.CX P w) 4 fN fdN ["text"] (spNumber T CS)
  mN : mg "number_of" = some (.ref fN)
  kN : PySem.W.keepIn K (.ref fN) = true
  bN : Binds K fdN ["text"] []
  GD : FnOk P w K mg base (L2.CX P w) 5 fD fdD ["text"] (spDigest T CS)
  mD : mg "digest" = some (.ref fD)
  kD : PySem.W.keepIn K (.ref fD) = true
  bD : Binds K fdD ["text"] []
  GS : FnOk P w K mg base (L2.CX P w) 5 fS fdS ["names", "least"] (spShort K T CS)
  mS : mg "shortest" = some (.ref fS)
  kS : PySem.W.keepIn K (.ref fS) = true
  bS : Binds K fdS ["names", "least"] []
  GU : FnOk P w K mg base (L2.CX P w) 6 fU fdU ["names"] (spSum K T CS)
  mU : mg "sum_of" = some (.ref fU)
  kU : PySem.W.keepIn K (.ref fU) = true
  bU : Binds K fdU ["names"] []
/-- what each lambda's body does: it raises -/
def tRaise (T : Tb) (CS : Addr) (E : XK) : TE := fun _ H _ => TOk T H ∧ ∀ H', Go T H H' → E (.ref CS) none H'
theorem bad0 : ¬ good "a`" := by decide +kernel
theorem bad1 : ¬ good "`" := by decide +kernel
theorem bad3 : ¬ namesOk ["abc"] := by decide +kernel
theorem bad6 : ¬ good (rowsT ["`"]) := by
  unfold rowsT srt
  rw [List.mergeSort_singleton]
  decide +kernel
theorem scL0 : FnScope [] [] (lamSc 0) := ⟨rfl, rfl, rfl, by decide +kernel, rfl, by decide +kernel, by decide +kernel⟩
theorem scL1 : FnScope [] [] (lamSc 1) := ⟨rfl, rfl, rfl, by decide +kernel, rfl, by decide +kernel, by decide +kernel⟩
theorem scL2 : FnScope [] [] (lamSc 2) := ⟨rfl, rfl, rfl, by decide +kernel, rfl, by decide +kernel, by decide +kernel⟩
theorem scL3 : FnScope [] [] (lamSc 3) := ⟨rfl, rfl, rfl, by decide +kernel, rfl, by decide +kernel, by decide +kernel⟩
theorem scL4 : FnScope [] [] (lamSc 4) := ⟨rfl, rfl, rfl, by decide +kernel, rfl, by decide +kernel, by decide +kernel⟩
theorem scL5 : FnScope [] [] (lamSc 5) := ⟨rfl, rfl, rfl, by decide +kernel, rfl, by decide +kernel, by decide +kernel⟩
theorem scL6 : FnScope [] [] (lamSc 6) := ⟨rfl, rfl, rfl, by decide +kernel, rfl, by decide +kernel, by decide +kernel⟩
section
variable {P : Program} {w : World} {K : PySem.W.Frag} {mg : Str → Option Value} {base : Heap} {T : Tb} {CS fC fN fD fS fU : Addr} {fdC fdN fdD fdS fdU : FuncData} {f c' : Addr} {A : Around} {outer : List Env} {s : Shared} {H : Hp} {E : XK}
theorem lb0 (R : Raisers P w K mg base T CS fC fN fD fS fU fdC fdN fdD fdS fdU) (hr : Room 6 (A.deeper (envOfC lamQ (lamSc 0) s.heap.objs.size f (.ref c')))) : PE (cxOf (L2.CX P w) P w K mg base [] lamQ (lamSc 0) f (.ref c') A outer s H E) (lamB 0) (tRaise T CS E) :=
  L2.PE.weak (pe_call R.GC (hr.mono (by decide)) rfl R.mC R.kC R.bC .nil (passes_call (takes_of rfl rfl rfl rfl) (fun _ _ _ _ e => e)) (pa_cons pe_str pa_nil)) fun σ H Q h => ⟨_, rfl, h.1, fun hg => absurd hg bad0, fun _ => h.2⟩
theorem lb1 (R : Raisers P w K mg base T CS fC fN fD fS fU fdC fdN fdD fdS fdU) (hr : Room 6 (A.deeper (envOfC lamQ (lamSc 1) s.heap.objs.size f (.ref c')))) : PE (cxOf (L2.CX P w) P w K mg base [] lamQ (lamSc 1) f (.ref c') A outer s H E) (lamB 1) (tRaise T CS E) :=
  L2.PE.weak (pe_call R.GN (hr.mono (by decide)) rfl R.mN R.kN R.bN .nil (passes_call (takes_of rfl rfl rfl rfl) (fun _ _ _ _ e => e)) (pa_cons pe_str pa_nil)) fun σ H Q h => ⟨_, rfl, h.1, fun hg => absurd hg bad1, fun _ => h.2⟩
theorem lb2 (R : Raisers P w K mg base T CS fC fN fD fS fU fdC fdN fdD fdS fdU) (hr : Room 6 (A.deeper (envOfC lamQ (lamSc 2) s.heap.objs.size f (.ref c')))) : PE (cxOf (L2.CX P w) P w K mg base [] lamQ (lamSc 2) f (.ref c') A outer s H E) (lamB 2) (tRaise T CS E) :=
  L2.PE.weak (pe_call R.GD (hr.mono (by decide)) rfl R.mD R.kD R.bD .nil (passes_call (takes_of rfl rfl rfl rfl) (fun _ _ _ _ e => e)) (pa_cons pe_str pa_nil)) fun σ H Q h => ⟨_, rfl, h.1, fun hg => absurd hg bad0, fun _ => h.2⟩
theorem lb3 (R : Raisers P w K mg base T CS fC fN fD fS fU fdC fdN fdD fdS fdU) (hr : Room 6 (A.deeper (envOfC lamQ (lamSc 3) s.heap.objs.size f (.ref c')))) : PE (cxOf (L2.CX P w) P w K mg base [] lamQ (lamSc 3) f (.ref c') A outer s H E) (lamB 3) (tRaise T CS E) :=
  L2.PE.weak (pe_call R.GS (hr.mono (by decide)) rfl R.mS R.kS R.bS .nil (passes_call (takes_of rfl rfl rfl rfl) (fun _ _ _ _ e => e)) (pa_cons (pe_lst (pa_cons pe_str pa_nil)) (pa_cons pe_int pa_nil))) fun σ H Q h =>
    ⟨by decide, fun l hl => ⟨l, ["abc"], 1, rfl, SqL.of upd_same, by decide +kernel, (go_upd h.1 hl).2, fun q => absurd q.2.2 bad3, fun _ H' g => h.2 H' ((go_upd h.1 hl).trans g)⟩⟩
theorem lb4 (R : Raisers P w K mg base T CS fC fN fD fS fU fdC fdN fdD fdS fdU) (hr : Room 6 (A.deeper (envOfC lamQ (lamSc 4) s.heap.objs.size f (.ref c')))) : PE (cxOf (L2.CX P w) P w K mg base [] lamQ (lamSc 4) f (.ref c') A outer s H E) (lamB 4) (tRaise T CS E) :=
  L2.PE.weak (pe_call R.GS (hr.mono (by decide)) rfl R.mS R.kS R.bS .nil (passes_call (takes_of rfl rfl rfl rfl) (fun _ _ _ _ e => e)) (pa_cons (pe_lst pa_nil) (pa_cons pe_int pa_nil))) fun σ H Q h =>
    ⟨by decide, fun l hl => ⟨l, [], 0, rfl, SqL.of upd_same, by decide +kernel, (go_upd h.1 hl).2, fun q => absurd q.1 (by decide), fun _ H' g => h.2 H' ((go_upd h.1 hl).trans g)⟩⟩
theorem lb5 (R : Raisers P w K mg base T CS fC fN fD fS fU fdC fdN fdD fdS fdU) (hr : Room 6 (A.deeper (envOfC lamQ (lamSc 5) s.heap.objs.size f (.ref c')))) : PE (cxOf (L2.CX P w) P w K mg base [] lamQ (lamSc 5) f (.ref c') A outer s H E) (lamB 5) (tRaise T CS E) :=
  L2.PE.weak (pe_call R.GS (hr.mono (by decide)) rfl R.mS R.kS R.bS .nil (passes_call (takes_of rfl rfl rfl rfl) (fun _ _ _ _ e => e)) (pa_cons (pe_lst pa_nil) (pa_cons pe_int pa_nil))) fun σ H Q h =>
    ⟨by decide, fun l hl => ⟨l, [], 11, rfl, SqL.of upd_same, by decide +kernel, (go_upd h.1 hl).2, fun q => absurd q.2.1 (by decide), fun _ H' g => h.2 H' ((go_upd h.1 hl).trans g)⟩⟩
theorem lb6 (R : Raisers P w K mg base T CS fC fN fD fS fU fdC fdN fdD fdS fdU) (hr : Room 6 (A.deeper (envOfC lamQ (lamSc 6) s.heap.objs.size f (.ref c')))) : PE (cxOf (L2.CX P w) P w K mg base [] lamQ (lamSc 6) f (.ref c') A outer s H E) (lamB 6) (tRaise T CS E) :=
  L2.PE.weak (pe_call R.GU (hr.mono (by decide)) rfl R.mU R.kU R.bU .nil (passes_call (takes_of rfl rfl rfl rfl) (fun _ _ _ _ e => e)) (pa_cons (pe_lst (pa_cons pe_str pa_nil)) pa_nil)) fun σ H Q h =>
    ⟨by decide, fun l hl => ⟨l, ["`"], rfl, SqL.of upd_same, by decide +kernel, (go_upd h.1 hl).2, fun q => absurd q bad6, fun _ H' g => h.2 H' ((go_upd h.1 hl).trans g)⟩⟩
end
end K1
end Text_K1p
section Text_K1q0
set_option Elab.async false
set_option linter.all false
set_option maxRecDepth 100000
set_option maxHeartbeats 4000000
namespace K1
open PySem PySem.Spec PyProof.Rows L2 Gx GxR LamY
/-- seven of them -/
theorem all7 {p : Nat → Prop} (h0 : p 0) (h1 : p 1) (h2 : p 2) (h3 : p 3) (h4 : p 4) (h5 : p 5) (h6 : p 6) (j : Nat) (h : j < 7) : p j := by
  rcases j with _ | _ | _ | _ | _ | _ | _ | j
  · exact h0
  · exact h1
  · exact h2
  · exact h3
  · exact h4
  · exact h5
  · exact h6
  · omega
theorem scLs : ∀ j, j < 7 → FnScope [] [] (lamSc j) := all7 (p := fun j => FnScope [] [] (lamSc j)) scL0 scL1 scL2 scL3 scL4 scL5 scL6
theorem bind0 (q : Str) (body : Expr) (scope : Scope) (pm cv ctv : Value) : bindArgs (PySem.W.kla_fn "<lambda>" q ⟨[], [], none, [], [], none, []⟩ body scope [] pm cv ctv) ⟨[], []⟩ = pure [] := by rfl
theorem lamP0 : lamP 0 = ⟨[], [], none, [], [], none, []⟩ := by rfl
theorem lamP1 : lamP 1 = ⟨[], [], none, [], [], none, []⟩ := by rfl
theorem lamP2 : lamP 2 = ⟨[], [], none, [], [], none, []⟩ := by rfl
theorem lamP3 : lamP 3 = ⟨[], [], none, [], [], none, []⟩ := by rfl
theorem lamP4 : lamP 4 = ⟨[], [], none, [], [], none, []⟩ := by rfl
theorem lamP5 : lamP 5 = ⟨[], [], none, [], [], none, []⟩ := by rfl
theorem lamP6 : lamP 6 = ⟨[], [], none, [], [], none, []⟩ := by rfl
theorem lamPs : ∀ j, j < 7 → lamP j = ⟨[], [], none, [], [], none, []⟩ := all7 (p := fun j => lamP j = ⟨[], [], none, [], [], none, []⟩) lamP0 lamP1 lamP2 lamP3 lamP4 lamP5 lamP6
theorem bindLs (j : Nat) (hj : j < 7) (pm cv ctv : Value) : bindArgs (PySem.W.kla_fn "<lambda>" lamQ (lamP j) (lamB j) (lamSc j) [] pm cv ctv) ⟨[], []⟩ = pure [] := by
  rw [lamPs j hj]
  exact bind0 _ _ _ _ _ _
def spTold (T : Tb) : Sp := fun vs H Q _ => ∃ (f : Addr) (j : Nat), j < 7 ∧ vs = [.ref f] ∧ LamAt H f lamQ (lamP j) (lamB j) (lamSc j) ∧ TOk T H ∧ ∀ H', Go T H H' → Q (.str "SignError") H'
section
variable {P : Program} {w : World} {K : PySem.W.Frag} {mg : Str → Option Value} {base : Heap} {T : Tb} {CS cc ci cs fC fN fD fS fU : Addr} {fdC fdN fdD fdS fdU : FuncData}
def LB (P : Program) (w : World) (K : PySem.W.Frag) (mg : Str → Option Value) (base : Heap) (T : Tb) (CS : Addr) (j : Nat) : Prop :=
  ∀ (f c' : Addr) (A : Around) (outer : List Env) (s : Shared) (H : Hp) (E : XK), Room 6 (A.deeper (envOfC lamQ (lamSc j) s.heap.objs.size f (.ref c'))) → PE (cxOf (L2.CX P w) P w K mg base [] lamQ (lamSc j) f (.ref c') A outer s H E) (lamB j) (tRaise T CS E)
theorem lbs (R : Raisers P w K mg base T CS fC fN fD fS fU fdC fdN fdD fdS fdU) : ∀ j, j < 7 → LB P w K mg base T CS j :=
  all7 (p := LB P w K mg base T CS) (fun _ _ _ _ _ _ _ hr => lb0 R hr) (fun _ _ _ _ _ _ _ hr => lb1 R hr) (fun _ _ _ _ _ _ _ hr => lb2 R hr) (fun _ _ _ _ _ _ _ hr => lb3 R hr) (fun _ _ _ _ _ _ _ hr => lb4 R hr) (fun _ _ _ _ _ _ _ hr => lb5 R hr) (fun _ _ _ _ _ _ _ hr => lb6 R hr)
end
end K1
end Text_K1q0
section Text_K1q
set_option Elab.async false
set_option linter.all false
set_option maxRecDepth 100000
set_option maxHeartbeats 4000000
namespace K1
open PySem PySem.Spec PyProof.Rows L2 Gx GxR LamY
section
variable {P : Program} {w : World} {K : PySem.W.Frag} {mg : Str → Option Value} {base : Heap} {T : Tb} {CS cc ci cs fC fN fD fS fU : Addr} {fdC fdN fdD fdS fdU : FuncData}
/-- an error class is caught by its own name -/
theorem own_caught {K : PySem.W.Frag} {S : Addr} (hb : PySem.W.subIn K (.ref S) (.type "BaseException") = some true) (hi : PySem.W.isClsIn K S = true) (ht : PySem.W.typeIn K (.ref S) = some (.type "type")) (hs : PySem.W.subIn K (.ref S) (.ref S) = some true) :
    PySem.W.exmOne K (.ref S) (.ref S) = some true := by
  have hc : (PySem.W.clsIn K S).isSome = true := by
    have := hi
    unfold PySem.W.isClsIn at this
    exact this
  simp [PySem.W.exmOne, PySem.W.kitCls, hb, hc, ht, hs]
theorem scTo : FnScope ["what"] ["what"] (defScope sTold) := ⟨rfl, rfl, rfl, by decide +kernel, rfl, by decide +kernel, by decide +kernel⟩
theorem ok_told {f : Addr} {fd : FuncData} (F : Fun K "_law_told" "_law_told" sTold f fd) (X : Tx K mg base T CS cc ci cs) (R : Raisers P w K mg base T CS fC fN fD fS fU fdC fdN fdD fdS fdU) : FnOk P w K mg base CX0 8 f fd ["what"] (spTold T) := by
  refine F.ok scTo (fun vs H Q E h => ?_) (fun cdv A outer s H vs Q E hr h => ?_)
  · obtain ⟨l, j, _, rfl, _⟩ := h
    rfl
  · obtain ⟨l, j, hj, rfl, hl, tk, k1⟩ := h
    refine ⟨_, pss_one (ps_try_only rfl rfl ⟨rfl, by decide, .inl X.gC⟩ takes0 (fun W pn xe tk _ => pss_one (ps_ret (pe_callL (i := 0) (k := 6) (q := lamQ) (params := lamP j) (body := lamB j) (scope := lamSc j) (tb := tRaise T CS) rfl (Or.inl rfl) hr (scLs j hj) (bindLs j hj) (fun σ => passAt tk σ) (lbs R j hj))))
      (fun a oe cls d pn _ _ => pss_one (ps_ret pe_str))), ?_⟩
    exact ⟨l, rfl, hl, tk, fun H' g => ⟨true, own_caught X.bC X.iC X.tC X.sC, fun _ a ha => k1 H' g, fun q => nomatch q⟩⟩
end
end K1
end Text_K1q
section Text_K1r
set_option Elab.async false
set_option linter.all false
set_option maxRecDepth 100000
set_option maxHeartbeats 4000000
namespace K1
open PySem PySem.Spec PyProof.Rows L2 Gx GxR LamY
theorem passN {P : Program} {w : World} {X : Cx} : Passes (L2.CX P w) X (fun _ _ _ => False) := fun _ _ _ _ _ _ _ c => by
  obtain ⟨_, _, _, _, _, _, _, _, _, _, _, _, z⟩ := c
  exact z.elim
def spPlain (T : Tb) : Sp := fun vs H Q _ => vs = [] ∧ TOk T H ∧ ∀ H', Go T H H' → Q (.bl true) H'
theorem good_e : good "" := by decide +kernel
theorem good_abc : good "abc" := by decide +kernel
theorem good_ab : good "ab" := by decide +kernel
theorem good_ba : good "ba" := by decide +kernel
theorem dig_e : digestOf "" = "aaaaaaaaah" := by decide +kernel
theorem dig_abc : digestOf "abc" = "rjzwitfadz" := by decide +kernel
theorem dig_ab : digestOf "ab" ≠ digestOf "ba" := by decide +kernel
theorem rows_a : rowsT ["aaaaaaaaaa"] = "aaaaaaaaaa" := by
  unfold rowsT srt
  rw [List.mergeSort_singleton]
  decide +kernel
theorem good_ra : good "aaaaaaaaaa" := by decide +kernel
theorem dig_ra : digestOf "aaaaaaaaaa" = "homxzvoqpz" := by decide +kernel
theorem names3 : namesOk ["aaaaaaaaaa", "aabaaaaaaa", "baaaaaaaaa"] := by decide +kernel
def tab3 : List (Key × V) := [(Sum.inr "aaaaaaaaaa", .str "aaa"), (Sum.inr "aabaaaaaaa", .str "aab"), (Sum.inr "baaaaaaaaa", .str "b")]
abbrev ns3 : List Str := ["aaaaaaaaaa", "aabaaaaaaa", "baaaaaaaaa"]
theorem uniq3 : uniq ns3 = ns3 := by decide +kernel
theorem srt3 : srt (uniq ns3) = ns3 := by
  rw [uniq3]
  exact (srt_eq (List.Perm.refl _) (by decide +kernel)).symm
theorem shTab3 : shTab ns3 1 (srt (uniq ns3)) = tab3 := by
  rw [srt3]
  decide +kernel
theorem but_go {T : Tb} {H H1 : Hp} (t : TOk T H) (b : But T.p H H1) (s : LamX.TabS H1 T.p lamQ) : Go T H H1 := by
  have tb : ∀ a, T.p ≠ a → TabG H a → TabG H1 a := fun a ne ta => by
    obtain ⟨ps, h, k⟩ := ta
    exact ⟨ps, b a _ (Ne.symm ne) h, k⟩
  refine ⟨fun a o e n => b a o (fun z => ?_) e, tb _ t.nc t.c, tb _ t.ni t.i, tb _ t.ns t.s, s, t.nc, t.ni, t.ns⟩
  obtain ⟨ps, h, _⟩ := t.p
  rw [z, h] at e
  exact n ps (Option.some.inj e).symm
/-- lambda number j stands at f -/
def LA (H : Hp) (f : Addr) (j : Nat) : Prop := LamAt H f lamQ (lamP j) (lamB j) (lamSc j)
theorem LA.go {T : Tb} {H H1 : Hp} {f : Addr} {j : Nat} (l : LA H f j) (g : Go T H H1) : LA H1 f j := LamAt.ext l g.1
/-- one lambda more is made -/
def tLamJ (T : Tb) (j : Nat) : TE := fun _ H Q => TOk T H ∧ ∀ H1 f, Go T H H1 → LA H1 f j → Q (.ref f) H1
theorem pe_lamJ {X : Cx} {T : Tb} {c : Addr} {params : Arguments} {body : Expr} {scope : Scope} {pos : Pos} (j : Nat) (TB : LamX.TabB X.base X.mg c T.p) (hcode : X.env.code = .ref c) (hdef : defaultsOf params X.env = ([], []))
    (hfree : ∀ y ∈ scope.names, y.2 ≠ .free) (hcl : cloFrom X.env.cells scope.names [] = []) (hq : X.env.qual ++ "<lambda>" = lamQ) (ep : params = lamP j) (eb : body = lamB j) (es : scope = lamSc j) : PE X (.Lambda params body scope pos) (tLamJ T j) := by
  refine PE.weak (pe_lambda TB hcode hdef hfree hcl) fun σ H Q h => ?_
  rw [hq]
  refine ⟨h.1.p, fun H1 f bt ts la => h.2 H1 f (but_go h.1 bt ts) ?_⟩
  subst ep eb es
  exact la
theorem plainQ : (("_law_plain" : Str) ++ ".<locals>." ++ "<lambda>" : Str) = lamQ := by decide +kernel
section
variable {P : Program} {w : World} {K : PySem.W.Frag} {mg : Str → Option Value} {base : Heap} {T : Tb} {CS cc ci cs cp fC fN fD fS fU fT : Addr} {fdC fdN fdD fdS fdU fdT : FuncData}
theorem scPl : FnScope ["bad", "f"] [] (defScope sPlain) := ⟨rfl, rfl, rfl, by decide +kernel, rfl, by decide +kernel, by decide +kernel⟩
theorem ok_plain {f : Addr} {fd : FuncData} (F : FunC K "_law_plain" "_law_plain" sPlain f cp fd) (X : Tx K mg base T CS cc ci cs) (bp : LamX.TabB base mg cp T.p) (R : Raisers P w K mg base T CS fC fN fD fS fU fdC fdN fdD fdS fdU) (GT : FnOk P w K mg base CX0 8 fT fdT ["what"] (spTold T)) (mT : mg "_law_told" = some (.ref fT))
    (kT : PySem.W.keepIn K (.ref fT) = true) (bT : Binds K fdT ["what"] []) : FnOk P w K mg base CX0 9 f fd [] (spPlain T) := by
  refine F.ok scPl (fun vs H Q E h => ?_) (fun A outer s H vs Q E hr h => ?_)
  · rw [h.1]
    rfl
  · obtain ⟨rfl, tk, k1⟩ := h
    obtain ⟨t0, hsig⟩ := X.sig
    obtain ⟨t1, hsz⟩ := X.size
    obtain ⟨t2, hpr⟩ := X.prime
    obtain ⟨t3, hlet⟩ := X.let_
    obtain ⟨t4, hend⟩ := X.end_
    refine ⟨_, pss_cons (ps_set (i := 0) scPl.nd rfl (Or.inl rfl) (pe_lst (pa_cons (pe_lamJ 0 bp rfl rfl (by decide +kernel) rfl plainQ rfl rfl rfl) (pa_cons (pe_lamJ 1 bp rfl rfl (by decide +kernel) rfl plainQ rfl rfl rfl) (pa_cons (pe_lamJ 2 bp rfl rfl (by decide +kernel) rfl plainQ rfl rfl rfl) (pa_cons (pe_lamJ 3 bp rfl rfl (by decide +kernel) rfl plainQ rfl rfl rfl) (pa_cons (pe_lamJ 4 bp rfl rfl (by decide +kernel) rfl plainQ rfl rfl rfl) (pa_cons (pe_lamJ 5 bp rfl rfl (by decide +kernel) rfl plainQ rfl rfl rfl) (pa_cons (pe_lamJ 6 bp rfl rfl (by decide +kernel) rfl plainQ rfl rfl rfl) pa_nil)))))))))
      (pss_cons (ps_if (PW.pt (pw_or (pt_cmpR (op_neD hr.units) (pe_lc (own := [("f", 1)]) (g := gName 1) rfl scPl.nd (pi_list (pv 0)) (blkOk_by (N := ["bad", "f"]) (sc := defScope sPlain) (by decide +kernel)) (fun _ _ _ _ _ => pg_name (i := 1) scPl.nd rfl (Or.inl rfl))
            (fun _ _ _ _ _ => pts_one (pt_cmpR op_ne (pe_call GT hr rfl mT kT bT .nil pass0 (pa_cons (pv 1) pa_nil)) pe_str (nomark _))) (fun _ _ _ _ _ => pe_int)) (pe_lst pa_nil) (nomark _))
          (pw_or (pt_cmpR (op_neD hr.units) (pe_tup (pa_cons (pe_glob (v := .int 10) rfl hsz ⟨_, rfl⟩) (pa_cons (pe_glob (v := .int 2305843009213693951) rfl hpr ⟨_, rfl⟩) (pa_cons (pe_glob (v := .str letT) rfl hlet ⟨_, rfl⟩) pa_nil)))) (pe_tup (pa_cons pe_int (pa_cons pe_int (pa_cons pe_str pa_nil)))) (nomark _))
          (pw_or (pt_cmpR op_ne (pe_callB call_len_str (by rfl) X.len PySem.boot_len (pa_cons (pe_glob (v := .str "\n") rfl hend ⟨_, rfl⟩) pa_nil)) pe_int (nomark _))
          (pw_or (pt_cmpR op_notIn_sign (pe_glob (v := .str "\n") rfl hend ⟨_, rfl⟩) (pe_glob (v := .str sigT) rfl hsig ⟨_, rfl⟩) (by rfl))
          (pw_or (pt_cmpR op_ne (pe_slice sl_str (pe_glob (v := .str sigT) rfl hsig ⟨_, rfl⟩) po_none (po_some pe_int)) pe_str (nomark _))
          (pw_or1 (pt_cmpR op_ne (pe_callB call_len_str (by rfl) X.len PySem.boot_len (pa_cons (pe_glob (v := .str sigT) rfl hsig ⟨_, rfl⟩) pa_nil)) pe_int (nomark _)))))))))
          (pss_one (ps_ret pe_bl)) pss_nil)
      (pss_cons (ps_if (pt_not (PW.pt (pw_and (pt_cmpR op_eq (pe_call R.GD (hr.mono (by decide)) rfl R.mD R.kD R.bD .nil passN (pa_cons pe_str pa_nil)) pe_str (nomark _)) (pw_and1 (pt_cmpR op_eq (pe_call R.GD (hr.mono (by decide)) rfl R.mD R.kD R.bD .nil passN (pa_cons pe_str pa_nil)) pe_str (nomark _))))))
          (pss_one (ps_ret pe_bl)) pss_nil)
      (pss_one (ps_ret (pe_and (pe_cmpR (op_eq_dict (by have := hr.units; exact Nat.lt_of_le_of_lt (Nat.le_add_right _ 64) this)) (pe_call R.GS (hr.mono (by decide)) rfl R.mS R.kS R.bS .nil passN (pa_cons (pe_lst (pa_cons pe_str (pa_cons pe_str (pa_cons pe_str pa_nil)))) (pa_cons pe_int pa_nil)))
            (pe_disp (pps_cons pe_str pe_str (pps_cons pe_str pe_str (pps_cons pe_str pe_str pps_nil))) (by rfl) (by rfl) (fun z => by cases z) (by decide)) (nomark _))
          (pe_and (pe_cmpR op_eq (pe_call R.GU (hr.mono (by decide)) rfl R.mU R.kU R.bU .nil passN (pa_cons (pe_lst (pa_cons pe_str pa_nil)) pa_nil)) pe_str (nomark _))
          (pe_one (pe_cmpR op_ne (pe_call R.GD (hr.mono (by decide)) rfl R.mD R.kD R.bD .nil passN (pa_cons pe_str pa_nil)) (pe_call R.GD (hr.mono (by decide)) rfl R.mD R.kD R.bD .nil passN (pa_cons pe_str pa_nil)) (nomark _))))))))), ?_⟩
    refine ⟨tk, fun H0 f0 g0 l0 => ⟨g0.2, fun H1 f1 g1 l1 => ⟨g1.2, fun H2 f2 g2 l2 => ⟨g2.2, fun H3 f3 g3 l3 => ⟨g3.2, fun H4 f4 g4 l4 => ⟨g4.2, fun H5 f5 g5 l5 => ⟨g5.2, fun H6 f6 g6 l6 => ?_⟩⟩⟩⟩⟩⟩⟩
    have gz : Go T H H6 := ((((((g0.trans g1).trans g2).trans g3).trans g4).trans g5).trans g6)
    have z0 := ((((((l0.go g1).go g2).go g3).go g4).go g5).go g6)
    have z1 := (((((l1.go g2).go g3).go g4).go g5).go g6)
    have z2 := ((((l2.go g3).go g4).go g5).go g6)
    have z3 := (((l3.go g4).go g5).go g6)
    have z4 := ((l4.go g5).go g6)
    have z5 := (l5.go g6)
    refine ⟨by show 7 ≤ sizeLine; decide, fun l hl => ?_⟩
    have gl := gz.trans (go_upd (o := .lst [.ref f0, .ref f1, .ref f2, .ref f3, .ref f4, .ref f5, .ref f6]) gz.2 hl)
    have up : ∀ {f : Addr} {j : Nat} {G : Hp}, LA H6 f j → Go T (upd H6 l (.lst [.ref f0, .ref f1, .ref f2, .ref f3, .ref f4, .ref f5, .ref f6])) G → LA G f j := fun la g => (la.go (go_upd gz.2 hl)).go g
    refine ⟨_, rfl, l, rfl, ⟨_, SqL.of upd_same⟩, fun D hD => lc_list (xs := [.ref f0, .ref f1, .ref f2, .ref f3, .ref f4, .ref f5, .ref f6]) (fun i G => Go T (upd H6 l (.lst [.ref f0, .ref f1, .ref f2, .ref f3, .ref f4, .ref f5, .ref f6])) G ∧ G D = some (.lst [])) ?_ ?_ ?_ ?_⟩
    · exact ⟨go_upd gl.2 hD, upd_same⟩
    · intro i G _ h
      exact SqL.of (h.1.at upd_same)
    · intro i x G hix h
      obtain ⟨g, eD⟩ := h
      have fx : ∃ f j, x = .ref f ∧ j < 7 ∧ LA H6 f j := by
        rcases i with _ | _ | _ | _ | _ | _ | _ | i
        · cases hix; exact ⟨f0, 0, rfl, by decide, z0⟩
        · cases hix; exact ⟨f1, 1, rfl, by decide, z1⟩
        · cases hix; exact ⟨f2, 2, rfl, by decide, z2⟩
        · cases hix; exact ⟨f3, 3, rfl, by decide, z3⟩
        · cases hix; exact ⟨f4, 4, rfl, by decide, z4⟩
        · cases hix; exact ⟨f5, 5, rfl, by decide, z5⟩
        · cases hix; exact ⟨f6, 6, rfl, by decide, l6⟩
        · cases hix
      obtain ⟨fx, j, rfl, hj, la⟩ := fx
      refine ⟨rfl, _, rfl, fx, j, hj, rfl, up la g, g.2, fun G' g' => ⟨rfl, _, rfl, iteF' (by decide) ⟨g.trans g', g'.at eD⟩⟩⟩
    · intro G h
      obtain ⟨g, eD⟩ := h
      refine ⟨by decide, fun q hq => ⟨_, _, .lst (SqL.of (by rw [upd_ne (ne_of_none eD hq)]; exact eD)) .nil, .lst (SqL.of upd_same) .nil, by decide, by decide, _, rfl, iteF' (by decide) ?_⟩⟩
      have gq := (gl.trans g).trans (go_upd (o := .lst []) g.2 hq)
      refine ⟨by show 3 ≤ sizeLine; decide, fun p hp => ⟨by show 3 ≤ sizeLine; decide, fun r hr' => ?_⟩⟩
      have gp := gq.trans (go_upd (o := .tup [.int 10, .int 2305843009213693951, .str letT]) gq.2 hp)
      have gr := gp.trans (go_upd (o := .tup [.int 10, .int 2305843009213693951, .str "abcdefghijklmnopqrstuvwxyz"]) gp.2 hr')
      have hpr' : p ≠ r := fun e => by rw [← e, upd_same] at hr'; cases hr'
      refine ⟨_, _, .tup (SqT.of (by rw [upd_ne hpr']; exact upd_same)) (.cons (.int _) (.cons (.int _) (.cons (.str _) .nil))), .tup (SqT.of upd_same) (.cons (.int _) (.cons (.int _) (.cons (.str _) .nil))), by decide +kernel, by decide +kernel, _, rfl, iteF' (by decide +kernel) ?_⟩
      refine ⟨_, rfl, by decide +kernel, rfl, _, rfl, iteF' (by decide +kernel) ?_⟩
      refine ⟨10, sigT, rfl, rfl, _, rfl, iteF' (by decide +kernel) ?_⟩
      refine ⟨_, rfl, sigT, rfl, by decide +kernel, rfl, _, rfl, iteF' (by decide +kernel) ?_⟩
      refine ⟨_, rfl, by decide +kernel, rfl, _, rfl, iteF' (by decide +kernel) ?_⟩
      refine ⟨_, rfl, gr.2, fun _ G1 g1 => ⟨rfl, _, rfl, iteT' (by decide +kernel) ?_⟩, fun ng => absurd good_e ng⟩
      refine ⟨_, rfl, g1.2, fun _ G2 g2 => ⟨rfl, _, rfl, iteF' (by decide +kernel) ?_⟩, fun ng => absurd good_abc ng⟩
      refine ⟨by show 3 ≤ sizeLine; decide, fun n hn => ⟨n, ns3, 1, rfl, SqL.of upd_same, by decide +kernel, (go_upd g2.2 hn).2, fun _ G3 d g3 ed => ?_, fun ng => absurd ⟨by decide, by decide, names3⟩ ng⟩⟩
      have ed' : G3 d = some (.dK tab3) := by rw [ed]; exact congrArg (fun t => some (HO.dK t)) shTab3
      have g03 := (((gr.trans g1).trans g2).trans (go_upd (o := .lst [.str "aaaaaaaaaa", .str "aabaaaaaaa", .str "baaaaaaaaa"]) g2.2 hn)).trans g3
      refine fun p2 hp2 => ⟨upd_same, tab3, rfl, by decide, d, p2, tab3, rfl, rfl, ?_, ?_, by decide +kernel, by decide +kernel, _, rfl, iteT' rfl ?_⟩
      · rw [upd_upd, upd_ne (ne_of_none ed' hp2)]
        exact ed'
      · rw [upd_upd, upd_same]
        exact congrArg (fun t => some (HO.dK t)) (show mergeK [] tab3 = tab3 by decide +kernel)
      · rw [upd_upd]
        have g04 := g03.trans (go_upd (o := .dK (mergeK [] tab3)) g03.2 hp2)
        have e1 : decide (V.str (digestOf (rowsT ["aaaaaaaaaa"])) = V.str "homxzvoqpz") = true := by rw [rows_a, dig_ra]; decide
        have e2 : (!decide (V.str (digestOf "ab") = V.str (digestOf "ba"))) = true := by rw [decide_eq_false fun q => dig_ab (V.str.inj q)]; rfl
        refine ⟨by show 1 ≤ sizeLine; decide, fun m hm => ⟨m, ["aaaaaaaaaa"], rfl, SqL.of upd_same, by decide +kernel, (go_upd g04.2 hm).2, fun _ G4 g4 => ⟨rfl, _, rfl, iteT' e1 ?_⟩, fun ng => absurd (by rw [rows_a]; exact good_ra) ng⟩⟩
        have g05 := (g04.trans (go_upd (o := .lst [.str "aaaaaaaaaa"]) g04.2 hm)).trans g4
        refine ⟨_, rfl, g05.2, fun _ G5 g5 => ⟨_, rfl, g5.2, fun _ G6 g6 => ⟨rfl, ?_⟩, fun ng => absurd good_ba ng⟩, fun ng => absurd good_ab ng⟩
        rw [e2]
        exact k1 _ ((g05.trans g5).trans g6)
end
end K1
end Text_K1r
section Text_K1s
set_option Elab.async false
set_option linter.all false
set_option maxRecDepth 100000
set_option maxHeartbeats 4000000
namespace K1
open PySem PySem.Spec PyProof.Rows L2 Gx GxR LamY
/-- all but the dice and tables stays, the tables stand -/
def GoD (T : Tb) (d : Addr) (H H' : Hp) : Prop := (∀ b o, b ≠ d → H b = some o → (∀ ps, o ≠ .tbl ps) → H' b = some o) ∧ TOk T H' ∧ DiceAt H' d
theorem GoD.refl {T : Tb} {d : Addr} {H : Hp} (t : TOk T H) (h : DiceAt H d) : GoD T d H H := ⟨fun _ _ _ e _ => e, t, h⟩
theorem GoD.trans {T : Tb} {d : Addr} {H H1 H2 : Hp} (a : GoD T d H H1) (b : GoD T d H1 H2) : GoD T d H H2 := ⟨fun c o n e k => b.1 c o n (a.1 c o n e k) k, b.2⟩
theorem GoD.of {T : Tb} {d : Addr} {H H1 : Hp} (h : DiceAt H d) (g : Go T H H1) : GoD T d H H1 := by
  obtain ⟨xs, e, k⟩ := h
  exact ⟨fun b o _ e2 n => g.1 b o e2 n, g.2, xs, g.at e, k⟩
theorem GoD.go {T : Tb} {d : Addr} {H H1 H2 : Hp} (a : GoD T d H H1) (g : Go T H1 H2) : GoD T d H H2 := a.trans (GoD.of a.2.2 g)
theorem GoD.lay {T : Tb} {d p : Addr} {H H1 : Hp} {o : HO} (a : GoD T d H H1) (hp : H1 p = none) : GoD T d H (upd H1 p o) := a.go (go_upd a.2.1 hp)
theorem GoD.at {T : Tb} {d b : Addr} {H H' : Hp} {o : HO} (g : GoD T d H H') (e : H b = some o) (nd : b ≠ d) (n : ∀ ps, o ≠ .tbl ps := by intro _ z; cases z) : H' b = some o := g.1 b o nd e n
/-- the dice rolled -/
theorem GoD.roll {T : Tb} {d : Addr} {H H1 : Hp} {xs : List V} (a : GoD T d H H1) (h : DiceV xs) : GoD T d H (upd H1 d (.lst xs)) := by
  obtain ⟨ys, e, _⟩ := a.2.2
  refine ⟨fun b o nb eb n => by rw [upd_ne nb]; exact a.1 b o nb eb n, ?_, xs, upd_same, h⟩
  have g : Go T (fun _ => none) H1 := ⟨(fun _ _ z => by cases z), a.2.1⟩
  exact (go_put (o := .lst xs) g (fun _ z => by cases z) e).2
/-- a new thing of ours, written over -/
theorem GoD.put {T : Tb} {d D : Addr} {H H1 : Hp} {o u : HO} (a : GoD T d H H1) (fr : Fresh H D) (nd : D ≠ d) (e : H1 D = some u) (n : ∀ ps, u ≠ .tbl ps := by intro _ z; cases z) (n2 : ∀ φ, u ≠ .ext φ := by intro _ z; cases z) : GoD T d H (upd H1 D o) := by
  obtain ⟨xs, ed, k⟩ := a.2.2
  have g : Go T (fun _ => none) H1 := ⟨(fun _ _ z => by cases z), a.2.1⟩
  have g2 := go_put (o := o) g (fun _ z => by cases z) e n n2
  refine ⟨fun b v nb eb hb => ?_, g2.2, xs, by rw [upd_ne (Ne.symm nd)]; exact ed, k⟩
  have : b ≠ D := fun z => by
    rw [z] at eb
    obtain ⟨ps, q⟩ := fr v eb
    exact hb ps q
  rw [upd_ne this]
  exact a.1 b v nb eb hb
theorem GoD.fresh {T : Tb} {d D : Addr} {H H1 : Hp} (a : GoD T d H H1) (hD : H1 D = none) : Fresh H D := fun u e => by
  refine Classical.byContradiction fun n => ?_
  have nd : D ≠ d := fun z => by
    obtain ⟨xs, ed, _⟩ := a.2.2
    rw [← z, hD] at ed
    cases ed
  have := a.1 D u nd e (fun ps z => n ⟨ps, z⟩)
  rw [hD] at this
  cases this
theorem DiceAt.ne {H : Hp} {d D : Addr} (h : DiceAt H d) (hD : H D = none) : D ≠ d := fun z => by
  obtain ⟨xs, ed, _⟩ := h
  rw [← z, hD] at ed
  cases ed
/-! ### texts of signs -/
def one (c : Nat) : Str := ⟨#[c]⟩
theorem app_list (a b : Str) : (a ++ b).cps.toList = a.cps.toList ++ b.cps.toList := by
  show (a.cps ++ b.cps).toList = _
  simp
theorem txj (y : Str) (l : List Str) : Txt.join y l = Str.join y l := PySem.StrLaws.glued_eq_join y l
theorem join_onesS : ∀ l : List Nat, (Str.join "" (l.map one)).cps.toList = l
  | [] => rfl
  | [c] => rfl
  | c :: e :: r => by
    show (one c ++ "" ++ Str.join "" ((e :: r).map one)).cps.toList = _
    rw [app_list, app_list, join_onesS (e :: r)]
    rfl
theorem join_ones (l : List Nat) : (Txt.join "" (l.map one)).cps.toList = l := by rw [txj, join_onesS]
theorem join_tx (l : List Nat) : Txt.join "" (l.map one) = tx l := by rw [← tx_of (Txt.join "" (l.map one)), join_ones]
theorem good_tx {l : List Nat} (h : ∀ c ∈ l, c ∈ sigT.cps.toList) : good (tx l) := fun c hc => h c (by rw [tx_list] at hc; exact hc)
theorem join_memS (y : Str) : ∀ (l : List Str) (c : Nat), c ∈ (Str.join y l).cps.toList → c ∈ y.cps.toList ∨ ∃ x ∈ l, c ∈ x.cps.toList
  | [], c, h => by cases h
  | [x], c, h => .inr ⟨x, List.mem_cons_self .., h⟩
  | x :: z :: r, c, h => by
    have h' : c ∈ (x ++ y ++ Str.join y (z :: r)).cps.toList := h
    rw [app_list, app_list, List.mem_append, List.mem_append] at h'
    rcases h' with (h' | h') | h'
    · exact .inr ⟨x, List.mem_cons_self .., h'⟩
    · exact .inl h'
    · rcases join_memS y (z :: r) c h' with q | ⟨w, hw, q⟩
      · exact .inl q
      · exact .inr ⟨w, List.mem_cons_of_mem _ hw, q⟩
theorem join_mem (y : Str) (l : List Str) (c : Nat) (h : c ∈ (Txt.join y l).cps.toList) : c ∈ y.cps.toList ∨ ∃ x ∈ l, c ∈ x.cps.toList := join_memS y l c (by rw [txj] at h; exact h)
theorem let_sig : ∀ c ∈ letT.cps.toList, c ∈ sigT.cps.toList := by decide +kernel
theorem nl_sig : ∀ c ∈ ("\n" : Str).cps.toList, c ∈ sigT.cps.toList := by decide +kernel
theorem dig_sig (z : Str) : ∀ c ∈ (digestOf z).cps.toList, c ∈ letT.cps.toList := fun c hc => by
  unfold digestOf at hc
  rw [tx_list] at hc
  exact dig_mem _ c hc
theorem good_digests {xs : List Str} : good (rowsT (xs.map digestOf)) := fun c hc => by
  rcases join_mem _ _ c hc with q | ⟨x, hx, q⟩
  · exact nl_sig c q
  · have hx' := (srt_perm _).mem_iff.mp hx
    obtain ⟨z, _, rfl⟩ := List.mem_map.mp hx'
    exact let_sig c (dig_sig z c q)
theorem dig_length (z : Str) : (digestOf z).length = 10 := by
  unfold digestOf
  rw [tx_len, dig_len]
theorem small_digests {xs : List Str} (h : xs.length < 64) : small (xs.map digestOf) := ⟨by rw [List.length_map]; exact h, fun x hx => by
  obtain ⟨z, _, rfl⟩ := List.mem_map.mp hx
  rw [dig_length]
  decide⟩
/-! ### equal lists of plain data -/
def Flat (d : PyData) : Prop := d.canLay0 = true ∧ d.depth ≤ 2 ∧ PyData.eqv d d = true
theorem flats {ds : List PyData} (h : ∀ d ∈ ds, Flat d) : PyData.canLayAll0 ds = true ∧ PyData.depthAll ds ≤ 2 ∧ PyData.eqvAll ds ds = true := by
  induction ds with
  | nil => exact ⟨rfl, by decide, rfl⟩
  | cons x r ih =>
    obtain ⟨a, b, c⟩ := ih fun d hd => h d (List.mem_cons_of_mem _ hd)
    obtain ⟨p, q, s⟩ := h x (List.mem_cons_self ..)
    refine ⟨?_, ?_, ?_⟩
    · show (PyData.canLay0 x && PyData.canLayAll0 r) = true
      rw [p, a]
      rfl
    · show max (PyData.depth x) (PyData.depthAll r) ≤ 2
      omega
    · show (PyData.eqv x x && PyData.eqvAll r r) = true
      rw [s, c]
      rfl
theorem shaped_flat {ds : List PyData} (h : ∀ d ∈ ds, Flat d) : SeqAt.shaped (.list ds) = true := by
  obtain ⟨a, b, _⟩ := flats h
  have hd : PyData.depth (.list ds) = PyData.depthAll ds + 1 := rfl
  show (PyData.canLayAll0 ds && decide (PyData.depth (.list ds) ≤ 64)) = true
  rw [a, hd, Bool.true_and, decide_eq_true_eq]
  omega
theorem eqv_flat {ds : List PyData} (h : ∀ d ∈ ds, Flat d) : PyData.eqv (.list ds) (.list ds) = true := (flats h).2.2
theorem dp_map {α : Type} {K : PySem.W.Frag} {H : Hp} {f : α → V} {g : α → PyData} : ∀ l : List α, (∀ a ∈ l, Dp K H (f a) (g a)) → DpAll K H (l.map f) (l.map g)
  | [], _ => .nil
  | a :: r, h => .cons (h a (List.mem_cons_self ..)) (dp_map r fun b hb => h b (List.mem_cons_of_mem _ hb))
theorem flat_int (i : Int) : Flat (.int i) := ⟨rfl, by show (0 : Nat) ≤ 2; decide, by show (i == i) = true; simp⟩
theorem flat_bool (b : Bool) : Flat (.bool b) := ⟨rfl, by show (0 : Nat) ≤ 2; decide, by show (b == b) = true; simp⟩
theorem flat_none : Flat .none := ⟨rfl, by decide, rfl⟩
theorem flat_str {x : Str} (h : PyData.strOk x = true) : Flat (.str x) := ⟨h, by show (0 : Nat) ≤ 2; decide, by show (x == x) = true; simp⟩
end K1
end Text_K1s
section Text_K1t
set_option Elab.async false
set_option linter.all false
set_option maxRecDepth 100000
set_option maxHeartbeats 4000000
namespace L2
open PySem PySem.Spec PyProof.Rows
variable {X : Cx} {K : PySem.W.Frag}
/-- rules whose reading names the written part: told by another name, so that it may stand in a comprehension's element -/
theorem pe_joinK {o e : Expr} {apos pos : Pos} {to te : TE} (hK : X.K = K) (ho : PE X o to) (he : PE X e te) (hs : starEach [e] X.env = [(false, eval e X.env)] := by rfl) (hb : attributeBase o "join" X.env (eval o X.env) = eval o X.env := by rfl) (hl : (apos.endLine == pos.line) = true := by rfl) : PE X (.Call (.Attribute o "join" apos) [e] [] pos) (tM1 (fun x xs H Q => ∃ a p, ∃ ys : List Str, x = .str a ∧ xs = [.ref p] ∧ (SqL K H p (ys.map V.str) ∨ SqT K H p (ys.map V.str)) ∧ (ys.map (·.length)).sum + ys.length * a.length ≤ 16777216 ∧ Q (.str (Txt.join a ys)) H) to te) := by
  subst hK
  exact pe_join ho he hs hb hl
end L2
namespace K1
open PySem PySem.Spec PyProof.Rows L2 Gx GxR LamY
def noS : Stmt := .Pass ⟨0, 0, 0, 0⟩
def noE : Expr := .Constant .none 0 ⟨0, 0, 0, 0⟩
def forBody : Stmt → List Stmt
  | .For _ _ b _ _ => b
  | _ => []
def asgE : Stmt → Expr
  | .Assign _ e _ => e
  | _ => noE
def compSc : Expr → Scope
  | .ListComp _ _ sc _ => sc
  | _ => defScope sLaw
def tupE (i : Nat) : Expr → Expr
  | .Tuple es _ _ => es.getD i noE
  | _ => noE
def lawBody : List Stmt := forBody ((defBody sLaw).getD 0 noS)
/-- the scopes of the three comprehensions that hold another -/
def rel (sc : Scope) : Scope := { sc with names := sc.names.map fun (n, k) => if (k == NameKind.free && (defScope sLaw).names.lookup n == some .cell) then (n, .cell) else (n, k) }
def scT1 : Scope := compSc (asgE (lawBody.getD 0 noS))
def scN1 : Scope := compSc (tupE 0 (asgE (lawBody.getD 4 noS)))
def scZ1 : Scope := compSc (asgE ((forBody (lawBody.getD 6 noS)).getD 0 noS))
abbrev NL : List Str := ["script", "dice", "texts", "names", "least", "due", "name", "sizes", "line", "j", "k", "text", "one", "size", "sign"]
theorem scLa : FnScope NL ["script"] (defScope sLaw) := ⟨rfl, rfl, rfl, by decide +kernel, rfl, by decide +kernel, by decide +kernel⟩
/-- the law's own defs, with their promises -/
structure Laws (P : Program) (w : World) (K : PySem.W.Frag) (mg : Str → Option Value) (base : Heap) (T : Tb) (fI fR fO fA fB fP : Addr) (fdI fdR fdO fdA fdB fdP : FuncData) : Prop where
  GI : FnOk P w K mg base CX0 3 fI fdI ["text"] (spIsName T)
  mI : mg "is_name" = some (.ref fI)
  kI : PySem.W.keepIn K (.ref fI) = true
  bI : Binds K fdI ["text"] []
  GR : FnOk P w K mg base CX0 2 fR fdR ["script", "most"] (spRounds K T)
  mR : mg "_law_rounds" = some (.ref fR)
  kR : PySem.W.keepIn K (.ref fR) = true
  bR : Binds K fdR ["script", "most"] []
  GO : FnOk P w K mg base CX0 1 fO fdO ["dice", "many"] spRoll
  mO : mg "_law_roll" = some (.ref fO)
  kO : PySem.W.keepIn K (.ref fO) = true
  bO : Binds K fdO ["dice", "many"] []
  GA : FnOk P w K mg base CX0 1 fA fdA ["text"] (spLNum T)
  mA : mg "_law_number" = some (.ref fA)
  kA : PySem.W.keepIn K (.ref fA) = true
  bA : Binds K fdA ["text"] []
  GB : FnOk P w K mg base CX0 2 fB fdB ["text"] (spLDig T)
  mB : mg "_law_digest" = some (.ref fB)
  kB : PySem.W.keepIn K (.ref fB) = true
  bB : Binds K fdB ["text"] []
  GP : FnOk P w K mg base CX0 9 fP fdP [] (spPlain T)
  mP : mg "_law_plain" = some (.ref fP)
  kP : PySem.W.keepIn K (.ref fP) = true
  bP : Binds K fdP [] []
section
variable {P : Program} {w : World} {K : PySem.W.Frag} {mg : Str → Option Value} {base : Heap} {T : Tb} {CS cc ci cs fC fN fD fS fU fI fR fO fA fB fP : Addr} {fdC fdN fdD fdS fdU fdI fdR fdO fdA fdB fdP : FuncData}
/-- a walk in the law's frame -/
abbrev lawCx (P : Program) (w : World) (K : PySem.W.Frag) (mg : Str → Option Value) (base : Heap) (f : Addr) (cdv : Value) (A : Around) (outer : List Env) (s : Shared) (H : Hp) (E : XK) : Cx := (cxOf CX0 P w K mg base NL "law" (defScope sLaw) f cdv A outer s H E).nox
theorem sum_ones : ∀ l : List Nat, ((l.map one).map (·.length)).sum = l.length
  | [] => rfl
  | c :: r => by
    rw [List.map_cons, List.map_cons, List.sum_cons, sum_ones r, List.length_cons]
    show 1 + r.length = r.length + 1
    omega
/-- texts = [...] -/
theorem st_texts {f : Addr} {cdv : Value} {A : Around} {outer : List Env} {s : Shared} {H00 : Hp} {E : XK} (hr : Room 9 (A.deeper (envOfC "law" (defScope sLaw) s.heap.objs.size f cdv))) (X : Tx K mg base T CS cc ci cs) (L : Laws P w K mg base T fI fR fO fA fB fP fdI fdR fdO fdA fdB fdP) :
    ∃ t, PS (lawCx P w K mg base f cdv A outer s H00 E) (lawBody.getD 0 noS) t ∧ ∀ (D : Ends) (a d : Addr) (v2 v3 v4 v5 v6 v7 v8 v9 v10 v11 v12 v13 v14 : Option V) (H : Hp), TOk T H → DiceAt H d →
      (∀ (H' : Hp) (l : Addr) (ts : List Str), GoD T d H H' → l ≠ d → Fresh H l → H' l = some (.lst (ts.map V.str)) → ts.length = 4 → (∀ t ∈ ts, good t) → D.nx [some (.ref a), some (.ref d), some (.ref l), v3, v4, v5, v6, v7, v8, v9, v10, v11, v12, v13, v14] H') →
      t D [some (.ref a), some (.ref d), v2, v3, v4, v5, v6, v7, v8, v9, v10, v11, v12, v13, v14] H := by
  obtain ⟨t0, hsig⟩ := X.sig
  refine ⟨_, ps_setLc (i := 2) (own := [("j", 9)]) (g := gName 9) (tt := tYes) rfl scLa.nd rfl rfl (sw_true rfl rfl rfl (by decide +kernel)) (pi_range1 rfl X.range (pa_cons pe_int pa_nil)) (blkOk_by (N := NL) (sc := defScope sLaw) (by decide +kernel)) (fun _ _ _ _ _ => pg_name (i := 9) scLa.nd rfl (Or.inl rfl)) (fun _ _ _ _ _ => pts_nil)
    (fun _ _ _ _ _ => pe_joinK (K := K) rfl pe_str (pe_lc (own := [("k", 10)]) (g := gName 10) (tt := tYes) rfl scLa.nd (pi_range1 rfl X.range (pa_cons (pe_call L.GO (hr.mono (by decide)) rfl L.mO L.kO L.bO .nil pass0 (pa_cons (pv 1) (pa_cons pe_int pa_nil))) pa_nil)) (blkOk_by (N := NL) (sc := rel scT1) (by decide +kernel)) (fun _ _ _ _ _ => pg_name (i := 10) scLa.nd rfl (Or.inl rfl)) (fun _ _ _ _ _ => pts_nil)
      (fun _ _ _ _ _ => pe_item_str (pe_glob (v := .str sigT) rfl hsig ⟨_, rfl⟩) (pe_call L.GO (hr.mono (by decide)) rfl L.mO L.kO L.bO .nil pass0 (pa_cons (pv 1) (pa_cons (pe_callB call_len_str (by rfl) X.len PySem.boot_len (pa_cons (pe_glob (v := .str sigT) rfl hsig ⟨_, rfl⟩) pa_nil)) pa_nil))) (fun _ _ => rfl)))), fun D a d v2 v3 v4 v5 v6 v7 v8 v9 v10 v11 v12 v13 v14 H tk dk k1 => ?_⟩
  have slen : sigT.length = 92 := sig_len
  have ssz : sigT.length ≤ sizeLine := by rw [slen, sizeLine_eq]; decide
  refine ⟨4, rfl, by decide, by decide, fun D1 hD1 => lc_range (lo := 0) (n := 4) (fun i G => GoD T d H G ∧ ∃ ts : List Str, G D1 = some (.lst (ts.map V.str)) ∧ ts.length = i ∧ ∀ t ∈ ts, good t) ?_ ?_ ?_⟩
  · exact ⟨(GoD.refl tk dk).lay hD1, [], upd_same, rfl, fun t ht => by cases ht⟩
  · intro i G hi h
    obtain ⟨g, ts, e1, el, eg⟩ := h
    have n1 : D1 ≠ d := dk.ne hD1
    have f1 : Fresh H D1 := fresh_none hD1
    refine ⟨rfl, ⟨_, rfl⟩, _, rfl, d, 12, rfl, by decide, by decide, g.2.2, fun r xs h0 h12 dv => ⟨r, rfl, by omega, by omega, fun D2 hD2 => ?_⟩⟩
    have gr := g.roll dv
    have n2 : D2 ≠ d := gr.2.2.ne hD2
    have e1' : upd G d (.lst xs) D1 = some (.lst (ts.map V.str)) := by rw [upd_ne n1]; exact e1
    have n12 : D1 ≠ D2 := ne_of_none e1' hD2
    refine lc_range (lo := 0) (n := r.toNat) (fun k G2 => GoD T d H G2 ∧ G2 D1 = some (.lst (ts.map V.str)) ∧ ∃ l : List Nat, G2 D2 = some (.lst ((l.map one).map V.str)) ∧ l.length = k ∧ ∀ c ∈ l, c ∈ sigT.cps.toList) ?_ ?_ ?_
    · exact ⟨gr.lay hD2, by rw [upd_ne n12]; exact e1', [], upd_same, rfl, fun c hc => by cases hc⟩
    · intro k G2 hk h
      obtain ⟨g2, e2, l, el2, ell, elc⟩ := h
      refine ⟨rfl, _, rfl, sigT, rfl, ssz, d, _, rfl, by rw [slen]; decide, by rw [slen]; decide, g2.2.2, fun q ys q0 q1 dv2 => ?_⟩
      rw [slen] at q1
      have q92 : q.toNat < 92 := by omega
      have gq : sigT.cps[q.toNat]? = some (sgAt q.toNat) := sig_get q92
      refine ⟨sigT, q, sgAt q.toNat, rfl, rfl, q0, by omega, by rw [slen]; omega, gq, (l.map one).map V.str, by rw [upd_ne n2]; exact el2, ?_, ?_, ?_, l ++ [sgAt q.toNat], ?_, ?_, ?_⟩
      · rw [List.length_map, List.length_map, ell, sizeLine_eq]
        omega
      · exact (g2.roll dv2).put (gr.fresh hD2) n2 (by rw [upd_ne n2]; exact el2)
      · rw [upd_ne n12, upd_ne n1]
        exact e2
      · rw [upd_same, List.map_append, List.map_append]
        rfl
      · rw [List.length_append, ell]
        rfl
      · intro c hc
        rcases List.mem_append.mp hc with hc | hc
        · exact elc c hc
        · rw [List.mem_singleton.mp hc]
          exact List.mem_of_getElem? (cps_at gq)
    · intro G2 h
      obtain ⟨g2, e2, l, el2, ell, elc⟩ := h
      refine ⟨"", D2, l.map one, rfl, rfl, .inl (SqL.of el2), ?_, ts.map V.str, e2, ?_, g2.put f1 n1 e2, ts ++ [Txt.join "" (l.map one)], ?_, ?_, ?_⟩
      · rw [sum_ones]
        show l.length + (l.map one).length * 0 ≤ 16777216
        omega
      · rw [List.length_map, el, sizeLine_eq]
        omega
      · rw [upd_same, List.map_append]
        rfl
      · rw [List.length_append, el]
        rfl
      · intro t ht
        rcases List.mem_append.mp ht with ht | ht
        · exact eg t ht
        · rw [List.mem_singleton.mp ht, join_tx]
          exact good_tx elc
  · intro G h
    obtain ⟨g, ts, e1, el, eg⟩ := h
    exact k1 G D1 ts g (dk.ne hD1) (fresh_none hD1) e1 el eg
end
end K1
end Text_K1t
section Text_K1u
set_option Elab.async false
set_option linter.all false
set_option maxRecDepth 100000
set_option maxHeartbeats 4000000
namespace K1
open PySem PySem.Spec PyProof.Rows L2 Gx GxR LamY
/-- [f(text) for text in texts] -/
theorem lc_texts {K : PySem.W.Frag} {T : Tb} {te : TE} {σ : L2.St} {H : Hp} {Q : VK} {l d : Addr} {ts : List Str} (F : Str → V) (hσ : σ[2]? = some (some (.ref l))) (tk : TOk T H) (dk : DiceAt H d) (hl : H l = some (.lst (ts.map V.str))) (nl : l ≠ d) (hs : ts.length ≤ 1000)
    (he : ∀ t ∈ ts, ∀ (G : Hp) (Q' : VK), GoD T d H G → (∀ G', Go T G G' → Q' (F t) G') → te ((wipe σ [11]).set 11 (some (.str t))) G Q') (h : ∀ (G : Hp) (D : Addr), GoD T d H G → D ≠ d → Fresh H D → G D = some (.lst (ts.map F)) → Q (.ref D) G) :
    tLc (iList K (tVar 2)) (gName 11) tYes te [11] σ H Q := by
  refine ⟨_, hσ, l, rfl, ⟨_, SqL.of hl⟩, fun D hD => lc_list (xs := ts.map V.str) (fun i G => GoD T d H G ∧ G D = some (.lst ((ts.take i).map F))) ?_ ?_ ?_ ?_⟩
  · exact ⟨(GoD.refl tk dk).lay hD, upd_same⟩
  · intro i G _ h
    exact SqL.of (h.1.at hl nl)
  · intro i x G hix h
    obtain ⟨g, eD⟩ := h
    obtain ⟨t, ht, rfl⟩ := str_at hix
    have hi : i < ts.length := (List.getElem?_eq_some_iff.mp ht).1
    refine ⟨wipe_one, he t (List.mem_of_getElem? ht) G _ g fun G' g' => ⟨(ts.take i).map F, g'.at eD, ?_, (g.go g').put (fresh_none hD) (dk.ne hD) (g'.at eD), ?_⟩⟩
    · rw [List.length_map, List.length_take, sizeLine_eq]
      omega
    · rw [upd_same, List.take_add_one, ht, List.map_append]
      rfl
  · intro G h
    obtain ⟨g, eD⟩ := h
    refine h_use h g eD dk hD
where
  h_use {T : Tb} {H : Hp} {Q : VK} {d : Addr} {ts : List Str} {F : Str → V} {G : Hp} {D : Addr} (h : ∀ (G : Hp) (D : Addr), GoD T d H G → D ≠ d → Fresh H D → G D = some (.lst (ts.map F)) → Q (.ref D) G) (g : GoD T d H G) (eD : G D = some (.lst ((ts.take (ts.map V.str).length).map F))) (dk : DiceAt H d) (hD : H D = none) : Q (.ref D) G :=
    h G D g (dk.ne hD) (fresh_none hD) (by rw [List.length_map, List.take_length] at eD; exact eD)
end K1
end Text_K1u
section Text_K1v
set_option Elab.async false
set_option linter.all false
set_option maxRecDepth 100000
set_option maxHeartbeats 4000000
namespace K1
open PySem PySem.Spec PyProof.Rows L2 Gx GxR LamY
/-- two lists that hold the same plain data -/
theorem same_lists {α : Type} {K : PySem.W.Frag} {H : Hp} {a b : Addr} {l : List α} {f : α → V} {g : α → PyData} {Q : VK} (ha : H a = some (.lst (l.map f))) (hb : H b = some (.lst (l.map f))) (hd : ∀ x ∈ l, Dp K H (f x) (g x)) (fl : ∀ x ∈ l, Flat (g x)) (h : Q (.bl false) H) :
    rNeD K (.ref a) (.ref b) H Q := by
  have fl' : ∀ d ∈ l.map g, Flat d := fun d hd => by
    obtain ⟨x, hx, rfl⟩ := List.mem_map.mp hd
    exact fl x hx
  refine ⟨_, _, .lst (SqL.of ha) (dp_map l hd), .lst (SqL.of hb) (dp_map l hd), shaped_flat fl', shaped_flat fl', ?_⟩
  rw [eqv_flat fl']
  exact h
theorem let_ok : ∀ c ∈ letT.cps.toList, c < 0x110000 := by decide +kernel
theorem strOk_of {x : Str} (h : ∀ c ∈ x.cps.toList, c < 0x110000) : PyData.strOk x = true := by
  unfold PyData.strOk
  rw [Array.all_eq_true]
  intro i hi
  exact decide_eq_true (h _ (by simp))
theorem strOk_dig (t : Str) : PyData.strOk (digestOf t) = true := strOk_of fun c hc => let_ok c (dig_sig t c hc)
section
variable {P : Program} {w : World} {K : PySem.W.Frag} {mg : Str → Option Value} {base : Heap} {T : Tb} {CS cc ci cs fC fN fD fS fU fI fR fO fA fB fP : Addr} {fdC fdN fdD fdS fdU fdI fdR fdO fdA fdB fdP : FuncData}
/-- the promise of a test over the texts that never fails -/
def Passed (T : Tb) (st : Stmt) (X : Cx) : Prop := ∃ t, PS X st t ∧ ∀ (D : Ends) (a d l : Addr) (ts : List Str) (v3 v4 v5 v6 v7 v8 v9 v10 v11 v12 v13 v14 : Option V) (H : Hp), TOk T H → DiceAt H d → l ≠ d → H l = some (.lst (ts.map V.str)) → ts.length = 4 → (∀ t ∈ ts, good t) →
  (∀ H', GoD T d H H' → D.nx [some (.ref a), some (.ref d), some (.ref l), v3, v4, v5, v6, v7, v8, v9, v10, v11, v12, v13, v14] H') → t D [some (.ref a), some (.ref d), some (.ref l), v3, v4, v5, v6, v7, v8, v9, v10, v11, v12, v13, v14] H
/-- numbers are the law's own -/
theorem st_num {f : Addr} {cdv : Value} {A : Around} {outer : List Env} {s : Shared} {H00 : Hp} {E : XK} (hr : Room 9 (A.deeper (envOfC "law" (defScope sLaw) s.heap.objs.size f cdv))) (R : Raisers P w K mg base T CS fC fN fD fS fU fdC fdN fdD fdS fdU) (L : Laws P w K mg base T fI fR fO fA fB fP fdI fdR fdO fdA fdB fdP) :
    Passed T (lawBody.getD 1 noS) (lawCx P w K mg base f cdv A outer s H00 E) := by
  refine ⟨_, ps_if (pt_cmpR (op_neD hr.units) (pe_lc (own := [("text", 11)]) (g := gName 11) (tt := tYes) rfl scLa.nd (pi_list (pv 2)) (blkOk_by (N := NL) (sc := defScope sLaw) (by decide +kernel)) (fun _ _ _ _ _ => pg_name (i := 11) scLa.nd rfl (Or.inl rfl)) (fun _ _ _ _ _ => pts_nil) (fun _ _ _ _ _ => pe_call R.GN (hr.mono (by decide)) rfl R.mN R.kN R.bN .nil passN (pa_cons (pv 11) pa_nil)))
      (pe_lc (own := [("text", 11)]) (g := gName 11) (tt := tYes) rfl scLa.nd (pi_list (pv 2)) (blkOk_by (N := NL) (sc := defScope sLaw) (by decide +kernel)) (fun _ _ _ _ _ => pg_name (i := 11) scLa.nd rfl (Or.inl rfl)) (fun _ _ _ _ _ => pts_nil) (fun _ _ _ _ _ => pe_call L.GA (hr.mono (by decide)) rfl L.mA L.kA L.bA .nil pass0 (pa_cons (pv 11) pa_nil))) (nomark _))
    (pss_one (ps_ret pe_bl)) pss_nil, fun D a d l ts v3 v4 v5 v6 v7 v8 v9 v10 v11 v12 v13 v14 H tk dk nl hl h4 hg k1 => ?_⟩
  delta tIfS tTest tOp
  show tLc (iList K (tVar 2)) (gName 11) tYes _ [11] [some (.ref a), some (.ref d), some (.ref l), v3, v4, v5, v6, v7, v8, v9, v10, v11, v12, v13, v14] H _
  refine lc_texts (T := T) (d := d) (fun t => V.int (numberOf t.cps.toList)) rfl tk dk hl nl (by omega) (fun t ht G Q' g q => ⟨_, rfl, t, rfl, g.2.1, fun _ G' g' => q G' g', fun ng => absurd (hg t ht) ng⟩) fun G1 D1 g1 n1 f1 e1 => ?_
  show tLc (iList K (tVar 2)) (gName 11) tYes _ [11] [some (.ref a), some (.ref d), some (.ref l), v3, v4, v5, v6, v7, v8, v9, v10, v11, v12, v13, v14] G1 _
  refine lc_texts (T := T) (d := d) (fun t => V.int (numberOf t.cps.toList)) rfl g1.2.1 g1.2.2 (g1.at hl nl) nl (by omega) (fun t ht G Q' g q => ⟨_, rfl, t, rfl, hg t ht, g.2.1, fun G' g' => q G' g'⟩) fun G2 D2 g2 n2 f2 e2 => ?_
  exact same_lists (g := fun t : Str => PyData.int (numberOf t.cps.toList)) (g2.at e1 n1) e2 (fun t _ => .int _) (fun t _ => flat_int _) ⟨_, rfl, iteF' (by decide) (k1 _ (g1.trans g2))⟩
/-- digests are the law's own -/
theorem st_dig {f : Addr} {cdv : Value} {A : Around} {outer : List Env} {s : Shared} {H00 : Hp} {E : XK} (hr : Room 9 (A.deeper (envOfC "law" (defScope sLaw) s.heap.objs.size f cdv))) (R : Raisers P w K mg base T CS fC fN fD fS fU fdC fdN fdD fdS fdU) (L : Laws P w K mg base T fI fR fO fA fB fP fdI fdR fdO fdA fdB fdP) :
    Passed T (lawBody.getD 2 noS) (lawCx P w K mg base f cdv A outer s H00 E) := by
  refine ⟨_, ps_if (pt_cmpR (op_neD hr.units) (pe_lc (own := [("text", 11)]) (g := gName 11) (tt := tYes) rfl scLa.nd (pi_list (pv 2)) (blkOk_by (N := NL) (sc := defScope sLaw) (by decide +kernel)) (fun _ _ _ _ _ => pg_name (i := 11) scLa.nd rfl (Or.inl rfl)) (fun _ _ _ _ _ => pts_nil) (fun _ _ _ _ _ => pe_call R.GD (hr.mono (by decide)) rfl R.mD R.kD R.bD .nil passN (pa_cons (pv 11) pa_nil)))
      (pe_lc (own := [("text", 11)]) (g := gName 11) (tt := tYes) rfl scLa.nd (pi_list (pv 2)) (blkOk_by (N := NL) (sc := defScope sLaw) (by decide +kernel)) (fun _ _ _ _ _ => pg_name (i := 11) scLa.nd rfl (Or.inl rfl)) (fun _ _ _ _ _ => pts_nil) (fun _ _ _ _ _ => pe_call L.GB (hr.mono (by decide)) rfl L.mB L.kB L.bB .nil pass0 (pa_cons (pv 11) pa_nil))) (nomark _))
    (pss_one (ps_ret pe_bl)) pss_nil, fun D a d l ts v3 v4 v5 v6 v7 v8 v9 v10 v11 v12 v13 v14 H tk dk nl hl h4 hg k1 => ?_⟩
  delta tIfS tTest tOp
  show tLc (iList K (tVar 2)) (gName 11) tYes _ [11] [some (.ref a), some (.ref d), some (.ref l), v3, v4, v5, v6, v7, v8, v9, v10, v11, v12, v13, v14] H _
  refine lc_texts (T := T) (d := d) (fun t => V.str (digestOf t)) rfl tk dk hl nl (by omega) (fun t ht G Q' g q => ⟨_, rfl, t, rfl, g.2.1, fun _ G' g' => q G' g', fun ng => absurd (hg t ht) ng⟩) fun G1 D1 g1 n1 f1 e1 => ?_
  show tLc (iList K (tVar 2)) (gName 11) tYes _ [11] [some (.ref a), some (.ref d), some (.ref l), v3, v4, v5, v6, v7, v8, v9, v10, v11, v12, v13, v14] G1 _
  refine lc_texts (T := T) (d := d) (fun t => V.str (digestOf t)) rfl g1.2.1 g1.2.2 (g1.at hl nl) nl (by omega) (fun t ht G Q' g q => ⟨_, rfl, t, rfl, hg t ht, g.2.1, fun G' g' => q G' g'⟩) fun G2 D2 g2 n2 f2 e2 => ?_
  exact same_lists (g := fun t : Str => PyData.str (digestOf t)) (g2.at e1 n1) e2 (fun t _ => .str _) (fun t _ => flat_str (strOk_dig t)) ⟨_, rfl, iteF' (by decide) (k1 _ (g1.trans g2))⟩
end
end K1
end Text_K1v
section Text_K1w
set_option Elab.async false
set_option linter.all false
set_option maxRecDepth 100000
set_option maxHeartbeats 4000000
namespace K1
open PySem PySem.Spec PyProof.Rows L2 Gx GxR LamY
theorem const4 {ts : List Str} (h : ts.length = 4) (v : V) : ts.map (fun _ => v) = [v, v, v, v] := by
  match ts, h with
  | [_, _, _, _], _ => rfl
theorem rep4 (v : V) : (List.replicate ((4 : Int).toNat) [v]).flatten = [v, v, v, v] := rfl
section
variable {P : Program} {w : World} {K : PySem.W.Frag} {mg : Str → Option Value} {base : Heap} {T : Tb} {CS cc ci cs fC fN fD fS fU fI fR fO fA fB fP : Addr} {fdC fdN fdD fdS fdU fdI fdR fdO fdA fdB fdP : FuncData}
/-- names are told, texts are fit, sums are those of sorted names -/
theorem st_sum {f : Addr} {cdv : Value} {A : Around} {outer : List Env} {s : Shared} {H00 : Hp} {E : XK} (hr : Room 9 (A.deeper (envOfC "law" (defScope sLaw) s.heap.objs.size f cdv))) (X : Tx K mg base T CS cc ci cs) (R : Raisers P w K mg base T CS fC fN fD fS fU fdC fdN fdD fdS fdU) (L : Laws P w K mg base T fI fR fO fA fB fP fdI fdR fdO fdA fdB fdP) :
    Passed T (lawBody.getD 3 noS) (lawCx P w K mg base f cdv A outer s H00 E) := by
  obtain ⟨t4, hend⟩ := X.end_
  refine ⟨_, ps_if (PW.pt (pw_or (pt_cmpR (op_neD hr.units) (pe_lc (own := [("text", 11)]) (g := gName 11) (tt := tYes) rfl scLa.nd (pi_list (pv 2)) (blkOk_by (N := NL) (sc := defScope sLaw) (by decide +kernel)) (fun _ _ _ _ _ => pg_name (i := 11) scLa.nd rfl (Or.inl rfl)) (fun _ _ _ _ _ => pts_nil) (fun _ _ _ _ _ => pe_call L.GI (hr.mono (by decide)) rfl L.mI L.kI L.bI .nil pass0 (pa_cons (pe_call R.GD (hr.mono (by decide)) rfl R.mD R.kD R.bD .nil passN (pa_cons (pv 11) pa_nil)) pa_nil)))
        (pe_op op_rep (pe_lst (pa_cons pe_bl pa_nil)) pe_int) (nomark _))
      (pw_or (pt_cmpR (op_neD hr.units) (pe_lc (own := [("text", 11)]) (g := gName 11) (tt := tYes) rfl scLa.nd (pi_list (pv 2)) (blkOk_by (N := NL) (sc := defScope sLaw) (by decide +kernel)) (fun _ _ _ _ _ => pg_name (i := 11) scLa.nd rfl (Or.inl rfl)) (fun _ _ _ _ _ => pts_nil) (fun _ _ _ _ _ => pe_call R.GC (hr.mono (by decide)) rfl R.mC R.kC R.bC .nil passN (pa_cons (pv 11) pa_nil)))
        (pe_op op_rep (pe_lst (pa_cons pe_non pa_nil)) pe_int) (nomark _))
      (pw_or1 (pt_cmpR op_ne (pe_call R.GU (hr.mono (by decide)) rfl R.mU R.kU R.bU .nil passN (pa_cons (pe_lc (own := [("text", 11)]) (g := gName 11) (tt := tYes) rfl scLa.nd (pi_list (pv 2)) (blkOk_by (N := NL) (sc := defScope sLaw) (by decide +kernel)) (fun _ _ _ _ _ => pg_name (i := 11) scLa.nd rfl (Or.inl rfl)) (fun _ _ _ _ _ => pts_nil) (fun _ _ _ _ _ => pe_call R.GD (hr.mono (by decide)) rfl R.mD R.kD R.bD .nil passN (pa_cons (pv 11) pa_nil))) pa_nil))
        (pe_call L.GB (hr.mono (by decide)) rfl L.mB L.kB L.bB .nil pass0 (pa_cons (pe_join (pe_glob (v := .str "\n") rfl hend ⟨_, rfl⟩) (pe_callB cr_sortedS (by rfl) X.sorted (by decide +kernel) (pa_cons (pe_lc (own := [("text", 11)]) (g := gName 11) (tt := tYes) rfl scLa.nd (pi_list (pv 2)) (blkOk_by (N := NL) (sc := defScope sLaw) (by decide +kernel)) (fun _ _ _ _ _ => pg_name (i := 11) scLa.nd rfl (Or.inl rfl)) (fun _ _ _ _ _ => pts_nil) (fun _ _ _ _ _ => pe_call L.GB (hr.mono (by decide)) rfl L.mB L.kB L.bB .nil pass0 (pa_cons (pv 11) pa_nil))) pa_nil))) pa_nil)) (nomark _))))))
    (pss_one (ps_ret pe_bl)) pss_nil, fun D a d l ts v3 v4 v5 v6 v7 v8 v9 v10 v11 v12 v13 v14 H tk dk nl hl h4 hg k1 => ?_⟩
  delta tIfS tOr tTest tOp
  show tLc (iList K (tVar 2)) (gName 11) tYes _ [11] [some (.ref a), some (.ref d), some (.ref l), v3, v4, v5, v6, v7, v8, v9, v10, v11, v12, v13, v14] H _
  refine lc_texts (T := T) (d := d) (fun _ => V.bl true) rfl tk dk hl nl (by omega) (fun t ht G Q' g q => ⟨_, rfl, t, rfl, g.2.1, fun _ G' g' => ⟨_, rfl, by rw [dig_length]; decide, g'.2, fun G'' g'' => by rw [isName_digest]; exact q G'' (g'.trans g'')⟩, fun ng => absurd (hg t ht) ng⟩) fun G1 D1 g1 n1 f1 e1 => ?_
  rw [const4 h4] at e1
  refine ⟨by show 1 ≤ sizeLine; decide, fun p2 hp2 => ⟨p2, 4, [.bl true], rfl, rfl, upd_same, by decide, by decide, by decide, fun p3 hp3 => ?_⟩⟩
  have g2 := (g1.lay (o := .lst [.bl true]) hp2).lay (o := .lst (List.replicate ((4 : Int).toNat) [V.bl true]).flatten) hp3
  have e1' := (GoD.refl g1.2.1 g1.2.2 |>.lay (o := .lst [.bl true]) hp2 |>.lay (o := .lst (List.replicate ((4 : Int).toNat) [V.bl true]).flatten) hp3).at e1 n1
  refine same_lists (l := [true, true, true, true]) (f := V.bl) (g := PyData.bool) e1' upd_same (fun x _ => .bl _) (fun x _ => flat_bool _) ⟨_, rfl, iteF' (by decide) ?_⟩
  show tLc (iList K (tVar 2)) (gName 11) tYes _ [11] [some (.ref a), some (.ref d), some (.ref l), v3, v4, v5, v6, v7, v8, v9, v10, v11, v12, v13, v14] _ _
  refine lc_texts (T := T) (d := d) (fun _ => V.non) rfl g2.2.1 g2.2.2 (g2.at hl nl) nl (by omega) (fun t ht G Q' g q => ⟨_, rfl, t, rfl, g.2.1, fun _ G' g' => q G' g', fun ng => absurd (hg t ht) ng⟩) fun G3 D3 g3 n3 f3 e3 => ?_
  rw [const4 h4] at e3
  refine ⟨by show 1 ≤ sizeLine; decide, fun p4 hp4 => ⟨p4, 4, [.non], rfl, rfl, upd_same, by decide, by decide, by decide, fun p5 hp5 => ?_⟩⟩
  have g4 := (g3.lay (o := .lst [.non]) hp4).lay (o := .lst (List.replicate ((4 : Int).toNat) [V.non]).flatten) hp5
  have e3' := (GoD.refl g3.2.1 g3.2.2 |>.lay (o := .lst [.non]) hp4 |>.lay (o := .lst (List.replicate ((4 : Int).toNat) [V.non]).flatten) hp5).at e3 n3
  refine same_lists (l := [(), (), (), ()]) (f := fun _ => V.non) (g := fun _ => PyData.none) e3' upd_same (fun x _ => .non) (fun x _ => flat_none) ⟨_, rfl, iteF' (by decide) ?_⟩
  have g24 := g2.trans g4
  delta tCall tCons
  show tLc (iList K (tVar 2)) (gName 11) tYes _ [11] [some (.ref a), some (.ref d), some (.ref l), v3, v4, v5, v6, v7, v8, v9, v10, v11, v12, v13, v14] _ _
  refine lc_texts (T := T) (d := d) (fun t => V.str (digestOf t)) rfl g24.2.1 g24.2.2 (g24.at hl nl) nl (by omega) (fun t ht G Q' g q => ⟨_, rfl, t, rfl, g.2.1, fun _ G' g' => q G' g', fun ng => absurd (hg t ht) ng⟩) fun G5 D5 g5 n5 f5 e5 => ?_
  have gd : good (rowsT (ts.map digestOf)) := good_digests
  refine ⟨D5, ts.map digestOf, rfl, SqL.of (by rw [List.map_map]; exact e5), small_digests (by omega), g5.2.1, fun _ G6 g6 => ?_, fun ng => absurd gd ng⟩
  have g56 := (g24.trans g5).go g6
  delta tM1 tCB
  refine ⟨⟨_, rfl⟩, ?_⟩
  show tLc (iList K (tVar 2)) (gName 11) tYes _ [11] [some (.ref a), some (.ref d), some (.ref l), v3, v4, v5, v6, v7, v8, v9, v10, v11, v12, v13, v14] _ _
  refine lc_texts (T := T) (d := d) (fun t => V.str (digestOf t)) rfl g56.2.1 g56.2.2 (g56.at hl nl) nl (by omega) (fun t ht G Q' g q => ⟨_, rfl, t, rfl, hg t ht, g.2.1, fun G' g' => q G' g'⟩) fun G7 D7 g7 n7 f7 e7 => ?_
  refine ⟨D7, ts.map digestOf, rfl, SqL.of (by rw [List.map_map]; exact e7), by rw [List.length_map]; omega, fun ys p pm so hp => ?_⟩
  have e := srt_eq pm so
  have er : Txt.join "\n" ys = rowsT (ts.map digestOf) := by rw [e]; rfl
  refine ⟨_, _, ys, rfl, rfl, .inl (SqL.of upd_same), small_sum pm (small_digests (by omega)), _, rfl, by rw [er]; exact gd, ((g7.lay (o := .lst (ys.map V.str)) hp)).2.1, fun G8 g8 => ?_⟩
  rw [er]
  refine ⟨rfl, _, rfl, iteF' (by simp) (k1 _ ((g56.trans (g7.lay hp)).go g8))⟩
end
end K1
end Text_K1w
section Text_K1x
set_option Elab.async false
set_option linter.all false
set_option maxRecDepth 100000
set_option maxHeartbeats 4000000
namespace K1
open PySem PySem.Spec PyProof.Rows L2 Gx GxR LamY
def abT : Str := "ab"
theorem ab_let : ∀ c ∈ abT.cps.toList, c ∈ letT.cps.toList := by decide +kernel
theorem isName_tx {l : List Nat} (h : l.length = 10) (k : ∀ c ∈ l, c ∈ letT.cps.toList) : isName (tx l) = true := by
  unfold isName
  rw [tx_len, tx_list, h]
  simp only [decide_true, Bool.true_and, List.all_eq_true, decide_eq_true_eq]
  exact k
section
variable {P : Program} {w : World} {K : PySem.W.Frag} {mg : Str → Option Value} {base : Heap} {T : Tb} {CS cc ci cs fC fN fD fS fU fI fR fO fA fB fP : Addr} {fdC fdN fdD fdS fdU fdI fdR fdO fdA fdB fdP : FuncData}
/-- names, least = .. -/
theorem st_names {f : Addr} {cdv : Value} {A : Around} {outer : List Env} {s : Shared} {H00 : Hp} {E : XK} (hr : Room 9 (A.deeper (envOfC "law" (defScope sLaw) s.heap.objs.size f cdv))) (X : Tx K mg base T CS cc ci cs) (L : Laws P w K mg base T fI fR fO fA fB fP fdI fdR fdO fdA fdB fdP) :
    ∃ t, PS (lawCx P w K mg base f cdv A outer s H00 E) (lawBody.getD 4 noS) t ∧ ∀ (D : Ends) (a d : Addr) (v2 v3 v4 v5 v6 v7 v8 v9 v10 v11 v12 v13 v14 : Option V) (H : Hp), TOk T H → DiceAt H d →
      (∀ (H' : Hp) (l : Addr) (ns : List Str) (m : Nat), GoD T d H H' → l ≠ d → Fresh H l → H' l = some (.lst (ns.map V.str)) → ns.length < 64 → namesOk ns → 1 ≤ m → m ≤ 10 → D.nx [some (.ref a), some (.ref d), v2, some (.ref l), some (.int (m : Int)), v5, v6, v7, v8, v9, v10, v11, v12, v13, v14] H') →
      t D [some (.ref a), some (.ref d), v2, v3, v4, v5, v6, v7, v8, v9, v10, v11, v12, v13, v14] H := by
  refine ⟨_, ps_asg (pe_tup (pa_cons (pe_lc (own := [("j", 9)]) (g := gName 9) (tt := tYes) rfl scLa.nd (pi_range1 rfl X.range (pa_cons (pe_call L.GO (hr.mono (by decide)) rfl L.mO L.kO L.bO .nil pass0 (pa_cons (pv 1) (pa_cons pe_int pa_nil))) pa_nil)) (blkOk_by (N := NL) (sc := defScope sLaw) (by decide +kernel)) (fun _ _ _ _ _ => pg_name (i := 9) scLa.nd rfl (Or.inl rfl)) (fun _ _ _ _ _ => pts_nil)
        (fun _ _ _ _ _ => pe_joinK (K := K) rfl pe_str (pe_lc (own := [("k", 10)]) (g := gName 10) (tt := tYes) rfl scLa.nd (pi_range1 rfl X.range (pa_cons pe_int pa_nil)) (blkOk_by (N := NL) (sc := rel scN1) (by decide +kernel)) (fun _ _ _ _ _ => pg_name (i := 10) scLa.nd rfl (Or.inl rfl)) (fun _ _ _ _ _ => pts_nil)
          (fun _ _ _ _ _ => pe_item_str pe_str (pe_call L.GO (hr.mono (by decide)) rfl L.mO L.kO L.bO .nil pass0 (pa_cons (pv 1) (pa_cons pe_int pa_nil))) (fun _ _ => rfl)))))
      (pa_cons (pe_op op_add pe_int (pe_call L.GO (hr.mono (by decide)) rfl L.mO L.kO L.bO .nil pass0 (pa_cons (pv 1) (pa_cons pe_int pa_nil)))) pa_nil)))
    (pg_tup rfl (pgs_cons (pg_name (i := 3) scLa.nd rfl (Or.inr rfl)) (pgs_cons (pg_name (i := 4) scLa.nd rfl (Or.inl rfl)) pgs_nil))), fun D a d v2 v3 v4 v5 v6 v7 v8 v9 v10 v11 v12 v13 v14 H tk dk k1 => ?_⟩
  refine ⟨_, rfl, d, 7, rfl, by decide, by decide, dk, fun r0 xs0 r00 r07 dv0 => ⟨r0, rfl, by omega, by omega, fun D1 hD1 => ?_⟩⟩
  have g0 := (GoD.refl tk dk).roll dv0
  have n1 : D1 ≠ d := g0.2.2.ne hD1
  have f1 : Fresh H D1 := g0.fresh hD1
  refine lc_range (lo := 0) (n := r0.toNat) (fun i G => GoD T d H G ∧ ∃ ns : List Str, G D1 = some (.lst (ns.map V.str)) ∧ ns.length = i ∧ namesOk ns) ?_ ?_ ?_
  · exact ⟨g0.lay hD1, [], upd_same, rfl, fun t ht => by cases ht⟩
  · intro i G hi h
    obtain ⟨g, ns, e1, el, eg⟩ := h
    refine ⟨rfl, ⟨_, rfl⟩, 10, rfl, by decide, by decide, fun D2 hD2 => ?_⟩
    have n2 : D2 ≠ d := g.2.2.ne hD2
    have n12 : D1 ≠ D2 := ne_of_none e1 hD2
    refine lc_range (lo := 0) (n := 10) (fun k G2 => GoD T d H G2 ∧ G2 D1 = some (.lst (ns.map V.str)) ∧ ∃ l : List Nat, G2 D2 = some (.lst ((l.map one).map V.str)) ∧ l.length = k ∧ ∀ c ∈ l, c ∈ letT.cps.toList) ?_ ?_ ?_
    · exact ⟨g.lay hD2, by rw [upd_ne n12]; exact e1, [], upd_same, rfl, fun c hc => by cases hc⟩
    · intro k G2 hk h
      obtain ⟨g2, e2, l, el2, ell, elc⟩ := h
      refine ⟨rfl, _, rfl, d, 2, rfl, by decide, by decide, g2.2.2, fun q ys q0 q1 dv2 => ?_⟩
      have gq : ∃ c, abT.cps[q.toNat]? = some c ∧ c ∈ letT.cps.toList := by
        rcases (by omega : q.toNat = 0 ∨ q.toNat = 1) with h | h
        · rw [h]; exact ⟨97, rfl, by decide +kernel⟩
        · rw [h]; exact ⟨98, rfl, by decide +kernel⟩
      obtain ⟨c, gq, gc⟩ := gq
      refine ⟨abT, q, c, rfl, rfl, q0, by omega, q1, gq, (l.map one).map V.str, by rw [upd_ne n2]; exact el2, ?_, ?_, ?_, l ++ [c], ?_, ?_, ?_⟩
      · rw [List.length_map, List.length_map, ell, sizeLine_eq]
        omega
      · exact (g2.roll dv2).put (g.fresh hD2) n2 (by rw [upd_ne n2]; exact el2)
      · rw [upd_ne n12, upd_ne n1]
        exact e2
      · rw [upd_same, List.map_append, List.map_append]
        rfl
      · rw [List.length_append, ell]
        rfl
      · intro c' hc
        rcases List.mem_append.mp hc with hc | hc
        · exact elc c' hc
        · rw [List.mem_singleton.mp hc]
          exact gc
    · intro G2 h
      obtain ⟨g2, e2, l, el2, ell, elc⟩ := h
      refine ⟨"", D2, l.map one, rfl, rfl, .inl (SqL.of el2), ?_, ns.map V.str, e2, ?_, g2.put f1 n1 e2, ns ++ [Txt.join "" (l.map one)], ?_, ?_, ?_⟩
      · rw [sum_ones]
        show l.length + (l.map one).length * 0 ≤ 16777216
        omega
      · rw [List.length_map, el, sizeLine_eq]
        omega
      · rw [upd_same, List.map_append]
        rfl
      · rw [List.length_append, el]
        rfl
      · intro t ht
        rcases List.mem_append.mp ht with ht | ht
        · exact eg t ht
        · rw [List.mem_singleton.mp ht, join_tx]
          exact isName_tx ell elc
  · intro G h
    obtain ⟨g, ns, e1, el, eg⟩ := h
    refine ⟨_, rfl, d, 10, rfl, by decide, by decide, g.2.2, fun q ys q0 q1 dv2 => ?_⟩
    obtain ⟨m, hm⟩ : ∃ m : Nat, 1 + q = (m : Int) := ⟨(1 + q).toNat, by omega⟩
    refine ⟨_, _, rfl, rfl, by show 2 ≤ sizeLine; decide, fun p hp => ⟨p, _, rfl, SqT.of upd_same, rfl, ?_⟩⟩
    show gCons (gName 3) (gCons (gName 4) gNil) [V.ref D1, V.int (1 + q)] _ (upd (upd G d (.lst ys)) p (.tup [V.ref D1, V.int (1 + q)])) _
    rw [hm]
    have gr := g.roll dv2
    have e1' : upd G d (.lst ys) D1 = some (.lst (ns.map V.str)) := by rw [upd_ne n1]; exact e1
    refine ⟨_, _, rfl, _, _, rfl, rfl, ?_⟩
    exact k1 _ D1 ns m (gr.lay (o := .tup [V.ref D1, V.int (m : Int)]) hp) n1 f1 (by rw [upd_ne (ne_of_none e1' hp)]; exact e1') (by omega) eg (by omega) (by omega)
end
end K1
end Text_K1x
section Text_K1y
set_option Elab.async false
set_option linter.all false
set_option maxRecDepth 100000
set_option maxHeartbeats 4000000
namespace K1
open PySem PySem.Spec PyProof.Rows L2 Gx GxR LamY
def lnT : Str := "abzA1_"
section
variable {P : Program} {w : World} {K : PySem.W.Frag} {mg : Str → Option Value} {base : Heap} {T : Tb} {CS cc ci cs fC fN fD fS fU fI fR fO fA fB fP : Addr} {fdC fdN fdD fdS fdU fdI fdR fdO fdA fdB fdP : FuncData}
/-- line = .. -/
theorem st_line {f : Addr} {cdv : Value} {A : Around} {outer : List Env} {s : Shared} {H00 : Hp} {E : XK} (hr : Room 9 (A.deeper (envOfC "law" (defScope sLaw) s.heap.objs.size f cdv))) (X : Tx K mg base T CS cc ci cs) (L : Laws P w K mg base T fI fR fO fA fB fP fdI fdR fdO fdA fdB fdP) :
    ∃ t, PS (lawCx P w K mg base f cdv A outer s H00 E) (lawBody.getD 8 noS) t ∧ ∀ (D : Ends) (a d : Addr) (v2 v3 v4 v5 v6 v7 v8 v9 v10 v11 v12 v13 v14 : Option V) (H : Hp), TOk T H → DiceAt H d →
      (∀ (H' : Hp) (l : List Nat), GoD T d H H' → l.length ≤ 11 → (∀ c ∈ l, c ∈ lnT.cps.toList) → D.nx [some (.ref a), some (.ref d), v2, v3, v4, v5, v6, v7, some (.str (tx l)), v9, v10, v11, v12, v13, v14] H') →
      t D [some (.ref a), some (.ref d), v2, v3, v4, v5, v6, v7, v8, v9, v10, v11, v12, v13, v14] H := by
  refine ⟨_, ps_set (i := 8) scLa.nd rfl (Or.inl rfl) (pe_join pe_str (pe_lc (own := [("k", 10)]) (g := gName 10) (tt := tYes) rfl scLa.nd (pi_range1 rfl X.range (pa_cons (pe_op op_add pe_int (pe_call L.GO (hr.mono (by decide)) rfl L.mO L.kO L.bO .nil pass0 (pa_cons (pv 1) (pa_cons pe_int pa_nil)))) pa_nil)) (blkOk_by (N := NL) (sc := defScope sLaw) (by decide +kernel)) (fun _ _ _ _ _ => pg_name (i := 10) scLa.nd rfl (Or.inl rfl)) (fun _ _ _ _ _ => pts_nil)
      (fun _ _ _ _ _ => pe_item_str pe_str (pe_call L.GO (hr.mono (by decide)) rfl L.mO L.kO L.bO .nil pass0 (pa_cons (pv 1) (pa_cons pe_int pa_nil))) (fun _ _ => rfl)))), fun D a d v2 v3 v4 v5 v6 v7 v8 v9 v10 v11 v12 v13 v14 H tk dk k1 => ?_⟩
  refine ⟨⟨_, rfl⟩, _, rfl, d, 3, rfl, by decide, by decide, dk, fun r0 xs0 r00 r03 dv0 => ⟨_, _, rfl, rfl, 9 + r0, rfl, by omega, by omega, fun D2 hD2 => ?_⟩⟩
  have g0 := (GoD.refl tk dk).roll dv0
  have n2 : D2 ≠ d := g0.2.2.ne hD2
  refine lc_range (lo := 0) (n := (9 + r0).toNat) (fun k G2 => GoD T d H G2 ∧ ∃ l : List Nat, G2 D2 = some (.lst ((l.map one).map V.str)) ∧ l.length = k ∧ ∀ c ∈ l, c ∈ lnT.cps.toList) ?_ ?_ ?_
  · exact ⟨g0.lay hD2, [], upd_same, rfl, fun c hc => by cases hc⟩
  · intro k G2 hk h
    obtain ⟨g2, l, el2, ell, elc⟩ := h
    refine ⟨rfl, _, rfl, d, 6, rfl, by decide, by decide, g2.2.2, fun q ys q0 q1 dv2 => ?_⟩
    have q6 : q.toNat < lnT.cps.size := by
      show q.toNat < 6
      omega
    have gq : lnT.cps[q.toNat]? = some (lnT.cps[q.toNat]) := Array.getElem?_eq_getElem q6
    refine ⟨lnT, q, lnT.cps[q.toNat], rfl, rfl, q0, by omega, q1, gq, (l.map one).map V.str, by rw [upd_ne n2]; exact el2, ?_, ?_, l ++ [lnT.cps[q.toNat]], ?_, ?_, ?_⟩
    · rw [List.length_map, List.length_map, ell, sizeLine_eq]
      omega
    · exact (g2.roll dv2).put (g0.fresh hD2) n2 (by rw [upd_ne n2]; exact el2)
    · rw [upd_same, List.map_append, List.map_append]
      rfl
    · rw [List.length_append, ell]
      rfl
    · intro c' hc
      rcases List.mem_append.mp hc with hc | hc
      · exact elc c' hc
      · rw [List.mem_singleton.mp hc]
        exact List.mem_of_getElem? (cps_at gq)
  · intro G2 h
    obtain ⟨g2, l, el2, ell, elc⟩ := h
    refine ⟨"", D2, l.map one, rfl, rfl, .inl (SqL.of el2), ?_, ?_⟩
    · rw [sum_ones]
      show l.length + (l.map one).length * 0 ≤ 16777216
      omega
    · rw [join_tx]
      exact k1 _ l g2 (by omega) elc
end
end K1
end Text_K1y
section Text_K1z
set_option Elab.async false
set_option linter.all false
set_option maxRecDepth 100000
set_option maxHeartbeats 4000000
namespace K1
open PySem PySem.Spec PyProof.Rows L2 Gx GxR LamY
/-- a list comprehension over a text's signs -/
theorem lc_str {z : Str} {g : TG} {tt : TT} {te : TE} {vs : List Nat} {σ : L2.St} {H1 : Hp} {D : Addr} {Qd : Hp → Prop} (Pv : Nat → Hp → Prop) (h0 : Pv 0 (upd H1 D (.lst [])))
    (hs : ∀ i c H, z.cps[i]? = some c → Pv i H → g (.str ⟨#[c]⟩) (wipe σ vs) H fun σ2 H2 => wipe σ2 vs = wipe σ vs ∧ tt σ2 H2 fun b H3 =>
      if b = true then te σ2 H3 fun y H4 => ∃ acc, H4 D = some (.lst acc) ∧ acc.length < sizeLine ∧ Pv (i + 1) (upd H4 D (.lst (acc ++ [y]))) else Pv (i + 1) H3) (hd : ∀ H, Pv z.cps.size H → Qd H) :
    ∃ W : Nat → Nat → Hp → Prop, (∃ m, W 0 m (upd H1 D (.lst []))) ∧ ∀ i m H, W i m H →
      ((Its z).stop i H ∧ Qd H) ∨ ((Its z).go i H ∧ ∃ Nx : Hp → Prop, (∀ H', Nx H' → ∃ m', m' < m ∧ W (i + 1) m' H') ∧ ∀ x H', (Its z).yld i H x H' → g x (wipe σ vs) H' fun σ2 H2 => wipe σ2 vs = wipe σ vs ∧ tt σ2 H2 fun b H3 =>
        if b = true then te σ2 H3 fun y H4 => ∃ acc, H4 D = some (.lst acc) ∧ acc.length < sizeLine ∧ Nx (upd H4 D (.lst (acc ++ [y]))) else Nx H3) :=
  lc_turns (Q := fun _ G => Qd G) z.cps.size Pv h0 (fun H p => ⟨Nat.le_refl _, hd H p⟩) fun i H hi p => ⟨hi, fun x H' y => by
    obtain ⟨rfl, c, hc, rfl⟩ := y
    exact hs i c H' hc p⟩
def abzT : Str := "abz"
/-- signs other than a, b, z -/
def odd (l : List Nat) : List Nat := l.filter fun c => !decide (c ∈ abzT.cps.toList)
theorem odd_snoc (l : List Nat) (c : Nat) : odd (l ++ [c]) = if c ∈ abzT.cps.toList then odd l else odd l ++ [c] := by
  unfold odd
  rw [List.filter_append, List.filter_cons, List.filter_nil]
  by_cases h : c ∈ abzT.cps.toList
  · simp [h]
  · simp [h]
theorem ln_let : ∀ c ∈ lnT.cps.toList, (decide (c ∈ letT.cps.toList)) = (decide (c ∈ abzT.cps.toList)) := by decide +kernel
theorem ln_ok : ∀ c ∈ lnT.cps.toList, c < 0x110000 := by decide +kernel
theorem odd_name {l : List Nat} (h : ∀ c ∈ l, c ∈ lnT.cps.toList) : (l.all fun c => decide (c ∈ letT.cps.toList)) = decide (odd l = []) := by
  rw [Bool.eq_iff_iff, List.all_eq_true, decide_eq_true_eq]
  unfold odd
  rw [List.filter_eq_nil_iff]
  constructor
  · intro k c hc
    have := k c hc
    rw [ln_let c (h c hc)] at this
    rw [this]
    decide
  · intro k c hc
    have := k c hc
    rw [ln_let c (h c hc)]
    simpa using this
theorem eqv_nil {α : Type} (l : List α) (g : α → PyData) : PyData.eqv (.list (l.map g)) (.list []) = decide (l = []) := by
  cases l with
  | nil => rfl
  | cons x r => rfl
section
variable {P : Program} {w : World} {K : PySem.W.Frag} {mg : Str → Option Value} {base : Heap} {T : Tb} {CS cc ci cs fC fN fD fS fU fI fR fO fA fB fP : Addr} {fdC fdN fdD fdS fdU fdI fdR fdO fdA fdB fdP : FuncData}
/-- the line's name -/
theorem st_isn {f : Addr} {cdv : Value} {A : Around} {outer : List Env} {s : Shared} {H00 : Hp} {E : XK} (hr : Room 9 (A.deeper (envOfC "law" (defScope sLaw) s.heap.objs.size f cdv))) (X : Tx K mg base T CS cc ci cs) (L : Laws P w K mg base T fI fR fO fA fB fP fdI fdR fdO fdA fdB fdP) :
    ∃ t, PS (lawCx P w K mg base f cdv A outer s H00 E) (lawBody.getD 9 noS) t ∧ ∀ (D : Ends) (a d : Addr) (l : List Nat) (v2 v3 v4 v5 v6 v7 v9 v10 v11 v12 v13 v14 : Option V) (H : Hp), TOk T H → DiceAt H d → l.length ≤ 11 → (∀ c ∈ l, c ∈ lnT.cps.toList) →
      (∀ (H' : Hp), GoD T d H H' → D.nx [some (.ref a), some (.ref d), v2, v3, v4, v5, v6, v7, some (.str (tx l)), v9, v10, v11, v12, v13, v14] H') →
      t D [some (.ref a), some (.ref d), v2, v3, v4, v5, v6, v7, some (.str (tx l)), v9, v10, v11, v12, v13, v14] H := by
  refine ⟨_, ps_if (pt_cmpR op_ne (pe_call L.GI (hr.mono (by decide)) rfl L.mI L.kI L.bI .nil pass0 (pa_cons (pv 8) pa_nil)) (pe_and (pe_cmpR op_eq (pe_callB call_len_str (by rfl) X.len PySem.boot_len (pa_cons (pv 8) pa_nil)) pe_int (nomark _))
      (pe_one (pe_cmpR (op_eqD hr.units) (pe_lc (own := [("sign", 14)]) (g := gName 14) rfl scLa.nd (pi_str (pv 8)) (blkOk_by (N := NL) (sc := defScope sLaw) (by decide +kernel)) (fun _ _ _ _ _ => pg_name (i := 14) scLa.nd rfl (Or.inl rfl)) (fun _ _ _ _ _ => pts_one (pt_cmpR op_notIn_sign (pv 14) pe_str (by rfl))) (fun _ _ _ _ _ => pv 14)) (pe_lst pa_nil) (nomark _)))) (nomark _))
    (pss_one (ps_ret pe_bl)) pss_nil, fun D a d l v2 v3 v4 v5 v6 v7 v9 v10 v11 v12 v13 v14 H tk dk hl hc k1 => ?_⟩
  have szl : (tx l).length ≤ sizeLine := by rw [tx_len, sizeLine_eq]; omega
  refine ⟨_, rfl, tx l, rfl, by rw [tx_len]; omega, tk, fun G1 g1 => ⟨_, rfl, _, rfl, szl, rfl, _, rfl, ?_⟩⟩
  have gd1 := GoD.of dk g1
  have e10 : (decide (V.int ((tx l).length : Int) = V.int 10)) = decide (l.length = 10) := by
    rw [tx_len, decide_eq_decide]
    constructor
    · intro q
      have := V.int.inj q
      omega
    · intro q
      rw [q]
      rfl
  have isn : isName (tx l) = (decide (l.length = 10) && decide (odd l = [])) := by
    unfold isName
    rw [tx_len, tx_list, odd_name hc]
  rw [e10]
  by_cases h10 : l.length = 10
  · refine iteT' (by simpa using h10) ⟨_, rfl, tx l, rfl, fun D2 hD2 => lc_str (fun i G => GoD T d H G ∧ G D2 = some (.lst (((odd (l.take i)).map one).map V.str))) ?_ ?_ ?_⟩
    · exact ⟨gd1.lay hD2, upd_same⟩
    · intro i c G hic h
      obtain ⟨g, eD⟩ := h
      have hi := cps_at hic
      rw [tx_list] at hi
      refine ⟨wipe_one, _, rfl, c, abzT, rfl, rfl, _, rfl, ?_⟩
      by_cases hz : c ∈ abzT.cps.toList
      · refine iteF' (by simp [hz]) ⟨g, ?_⟩
        rw [eD, List.take_add_one, hi]
        show _ = some (HO.lst (((odd (l.take i ++ [c])).map one).map V.str))
        rw [odd_snoc, if_pos hz]
      · refine iteT' (by simp [hz]) ⟨_, rfl, _, eD, ?_, g.put (gd1.fresh hD2) (gd1.2.2.ne hD2) eD, ?_⟩
        · have q1 : (odd (l.take i)).length ≤ (l.take i).length := List.length_filter_le ..
          rw [List.length_map, List.length_map, sizeLine_eq]
          rw [List.length_take] at q1
          omega
        · rw [upd_same, List.take_add_one, hi]
          show _ = some (HO.lst (((odd (l.take i ++ [c])).map one).map V.str))
          rw [odd_snoc, if_neg hz, List.map_append, List.map_append]
          rfl
    · intro G h
      obtain ⟨g, eD⟩ := h
      rw [show l.take (tx l).cps.size = l by rw [show (tx l).cps.size = l.length from tx_len l]; exact List.take_length, List.map_map] at eD
      have fl : ∀ x ∈ (odd l).map (fun c => PyData.str (one c)), Flat x := fun x hx => by
        obtain ⟨c, hcx, rfl⟩ := List.mem_map.mp hx
        have hm : c ∈ l := (List.mem_filter.mp hcx).1
        exact flat_str (strOk_of fun e he => by
          have : e = c := by simpa [one] using he
          rw [this]
          exact ln_ok c (hc c hm))
      refine ⟨by decide, fun q hq => ⟨_, _, .lst (SqL.of (by rw [upd_ne (ne_of_none eD hq)]; exact eD)) (dp_map (odd l) (g := fun c => PyData.str (one c)) fun c _ => .str _), .lst (SqL.of upd_same) .nil, shaped_flat fl, by decide, ?_⟩⟩
      rw [eqv_nil, isn, decide_eq_true h10, Bool.true_and]
      exact ⟨rfl, _, rfl, iteF' (by simp) (k1 _ (g.lay hq))⟩
  · refine iteF' (by simpa using h10) ?_
    rw [isn, decide_eq_false h10, Bool.false_and]
    exact ⟨rfl, _, rfl, iteF' (by simp) (k1 _ gd1)⟩
end
end K1
end Text_K1z
section Text_K2a
set_option Elab.async false
set_option linter.all false
set_option maxRecDepth 100000
set_option maxHeartbeats 4000000
namespace L2
open PySem PySem.Spec PyProof.Rows
theorem pi_listK {X : Cx} {K : PySem.W.Frag} {tg l : Expr} {tl : TE} (hK : X.K = K) (hl : PE X l tl) : PI X tg l (iList K tl) := by
  subst hK
  exact pi_list hl
theorem op_eqDK {X : Cx} {K : PySem.W.Frag} (hK : X.K = K) (hu : X.A.units + 64 < cLine) : OpR X (compareOp .Eq) (rEqD K) := by
  subst hK
  exact op_eqD hu
end L2
end Text_K2a
section Text_K2b
set_option Elab.async false
set_option linter.all false
set_option maxRecDepth 100000
set_option maxHeartbeats 4000000
namespace K1
open PySem PySem.Spec PyProof.Rows L2 Gx GxR LamY
/-- the sizes with which no other one begins so -/
def szs (ns : List Str) (n : Str) (m i : Nat) : List Nat := (List.range' m i).filter fun k => !clash ns n k
theorem szs_succ (ns : List Str) (n : Str) (m i : Nat) : szs ns n m (i + 1) = if clash ns n (m + i) = true then szs ns n m i else szs ns n m i ++ [m + i] := by
  unfold szs
  rw [List.range'_1_concat, List.filter_append, List.filter_cons, List.filter_nil]
  by_cases h : clash ns n (m + i) = true
  · simp [h]
  · simp [h]
theorem szs_len (ns : List Str) (n : Str) (m i : Nat) : (szs ns n m i).length ≤ i := by
  unfold szs
  exact Nat.le_trans (List.length_filter_le ..) (by rw [List.length_range']; exact Nat.le_refl _)
theorem szs_first {ns : List Str} {n : Str} (hc : clash ns n 10 = false) : ∀ (f k : Nat), k + f = 10 → (szs ns n k (f + 1))[0]? = some (fewF ns n f k)
  | 0, k, h => by
    have e : k = 10 := by omega
    subst e
    unfold szs
    rw [List.range'_succ]
    simp [hc, fewF]
  | f + 1, k, h => by
    unfold szs
    rw [List.range'_succ]
    by_cases hk : clash ns n k = true
    · have ih := szs_first hc f (k + 1) (by omega)
      unfold szs at ih
      rw [List.filter_cons, if_neg (by simp [hk]), ih]
      show some (fewF ns n f (k + 1)) = some (if clash ns n k = true then fewF ns n f (k + 1) else k)
      rw [if_pos hk]
    · rw [List.filter_cons, if_pos (by simp [hk])]
      show some k = some (if clash ns n k = true then fewF ns n f (k + 1) else k)
      rw [if_neg hk]
theorem szs_few {ns : List Str} {n : Str} {m : Nat} (h : namesOk ns) (hn : n ∈ ns) (hm : m ≤ 10) : (szs ns n m (11 - m))[0]? = some (few ns n m) := by
  have := szs_first (clash_ten h hn) (10 - m) m (by omega)
  rw [show 11 - m = 10 - m + 1 by omega]
  exact this
/-- those that begin so -/
def same (l : List Str) (n : Str) (k : Nat) : List Str := l.filter fun o => decide (o ≠ n) && decide (o.cps.toList.take k = n.cps.toList.take k)
theorem same_nil (l : List Str) (n : Str) (k : Nat) : decide (same l n k = []) = !clash l n k := by
  unfold same clash
  rw [Bool.eq_iff_iff]
  simp only [decide_eq_true_eq, Bool.not_eq_true', List.filter_eq_nil_iff, List.any_eq_false]
theorem same_snoc (l : List Str) (n : Str) (k : Nat) (o : Str) : same (l ++ [o]) n k = if (decide (o ≠ n) && decide (o.cps.toList.take k = n.cps.toList.take k)) = true then same l n k ++ [o] else same l n k := by
  unfold same
  rw [List.filter_append, List.filter_cons, List.filter_nil]
  split
  · rfl
  · rw [List.append_nil]
theorem tx_inj {a b : List Nat} (h : tx a = tx b) : a = b := by rw [← tx_list a, ← tx_list b, h]
theorem cutT_eq (o n : Str) (k : Nat) : decide (V.str (cutT o k) = V.str (cutT n k)) = decide (o.cps.toList.take k = n.cps.toList.take k) := by
  rw [decide_eq_decide]
  unfold cutT
  constructor
  · intro q
    exact tx_inj (V.str.inj q)
  · intro q
    rw [q]
theorem few_ten (ns : List Str) (n : Str) {m : Nat} (h : m ≤ 10) : few ns n m ≤ 10 := by
  have := few_le (xs := ns) (n := n) (10 - m) m
  unfold few
  omega
end K1
end Text_K2b
section Text_K2c
set_option Elab.async false
set_option linter.all false
set_option maxRecDepth 100000
set_option maxHeartbeats 4000000
namespace K1
open PySem PySem.Spec PyProof.Rows L2 Gx GxR LamY
theorem paired_map {α β γ : Type} {F : α → β → Prop} {F' : α → γ → Prop} {g : β → γ} : ∀ {l : List α} {r : List β}, Paired F l r → (∀ a b, F a b → F' a (g b)) → Paired F' l (r.map g)
  | _, _, .nil, _ => .nil
  | _, _, .cons x y, h => .cons (h _ _ x) (paired_map y h)
theorem strOk_name {x : Str} (h : isName x = true) : PyData.strOk x = true := strOk_of fun c hc => by
  have h2 := (Bool.and_eq_true_iff.mp h).2
  exact let_ok c (of_decide_eq_true (List.all_eq_true.mp h2 c hc))
theorem merge_keys (v : V) : ∀ (l u : List Str), mergeK (keyTab v u) (l.map fun o => ((Sum.inr o : Key), v)) = keyTab v (l.foldl (fun l x => if x ∈ l then l else l ++ [x]) u)
  | [], u => rfl
  | o :: r, u => by
    show mergeK (putK (keyTab v u) (Sum.inr o) v) (r.map fun o => ((Sum.inr o : Key), v)) = _
    rw [put_key, merge_keys v r]
    rfl
theorem merge_uniq (v : V) (l : List Str) : mergeK [] (l.map fun o => ((Sum.inr o : Key), v)) = keyTab v (uniq l) := merge_keys v l []
section
variable {P : Program} {w : World} {K : PySem.W.Frag} {mg : Str → Option Value} {base : Heap} {T : Tb} {CS cc ci cs fC fN fD fS fU fI fR fO fA fB fP : Addr} {fdC fdN fdD fdS fdU fdI fdR fdO fdA fdB fdP : FuncData}
/-- the row of due for a name -/
def rowOf (ns : List Str) (m : Nat) (n : Str) : List V := [.str n, .str (cutT n (few ns n m))]
/-- the list due stands at l -/
def DueAt (G : Hp) (l : Addr) (ns : List Str) (m : Nat) (qs : List Str) : Prop := ∃ ps : List Addr, G l = some (.lst (ps.map V.ref)) ∧ Paired (fun p n => G p = some (.tup (rowOf ns m n))) ps qs
theorem DueAt.go {T : Tb} {d : Addr} {G G' : Hp} {l : Addr} {ns : List Str} {m : Nat} {qs : List Str} (h : DueAt G l ns m qs) (g : GoD T d G G') (nd : l ≠ d) (dk : DiceAt G d) : DueAt G' l ns m qs := by
  obtain ⟨ps, e, p⟩ := h
  obtain ⟨xs, ed, _⟩ := dk
  exact ⟨ps, g.at e nd, L2.Paired.mapP p fun a b q => g.at q fun z => by rw [z, ed] at q; cases q⟩
/-- what is due -/
theorem st_due {f : Addr} {cdv : Value} {A : Around} {outer : List Env} {s : Shared} {H00 : Hp} {E : XK} (hr : Room 9 (A.deeper (envOfC "law" (defScope sLaw) s.heap.objs.size f cdv))) (X : Tx K mg base T CS cc ci cs) (L : Laws P w K mg base T fI fR fO fA fB fP fdI fdR fdO fdA fdB fdP) :
    ∃ t, PS (lawCx P w K mg base f cdv A outer s H00 E) (lawBody.getD 6 noS) t ∧ ∀ (D : Ends) (a d ln lq : Addr) (ns : List Str) (m : Nat) (v2 v6 v7 v8 v9 v10 v11 v12 v13 v14 : Option V) (H : Hp), TOk T H → DiceAt H d → ln ≠ d → H ln = some (.lst (ns.map V.str)) → ns.length < 64 → namesOk ns → 1 ≤ m → m ≤ 10 → lq ≠ d → H lq = some (.lst []) →
      (∀ (H' : Hp) (l : Addr) (u6 u7 : Option V), GoD T d H H' → l ≠ d → DueAt H' l ns m (srt (uniq ns)) → D.nx [some (.ref a), some (.ref d), v2, some (.ref ln), some (.int (m : Int)), some (.ref l), u6, u7, v8, v9, v10, v11, v12, v13, v14] H') →
      t D [some (.ref a), some (.ref d), v2, some (.ref ln), some (.int (m : Int)), some (.ref lq), v6, v7, v8, v9, v10, v11, v12, v13, v14] H := by
  refine ⟨_, ps_for PassesOwn.never rfl (pi_list (pe_callB (call_sortedD rfl) (by rfl) X.sorted (by decide +kernel) (pa_cons (pe_callTy (call_dictP rfl) (by rfl) X.dict (by decide +kernel) (pa_cons
      (pe_lc (own := [("one", 12)]) (g := gName 12) (tt := tYes) rfl scLa.nd (pi_list (pv 3)) (blkOk_by (N := NL) (sc := defScope sLaw) (by decide +kernel)) (fun _ _ _ _ _ => pg_name (i := 12) scLa.nd rfl (Or.inl rfl)) (fun _ _ _ _ _ => pts_nil) (fun _ _ _ _ _ => pe_tup (pa_cons (pv 12) (pa_cons pe_int pa_nil)))) pa_nil)) pa_nil))) (pg_name (i := 6) scLa.nd rfl (Or.inr rfl))
    (pss_cons (ps_setLc (i := 7) (own := [("size", 13)]) (g := gName 13) rfl scLa.nd rfl rfl (sw_true rfl rfl rfl (by decide +kernel)) (pi_range2 rfl X.range (pa_cons (pv 4) (pa_cons pe_int pa_nil))) (blkOk_by (N := NL) (sc := defScope sLaw) (by decide +kernel)) (fun _ _ _ _ _ => pg_name (i := 13) scLa.nd rfl (Or.inr rfl))
        (fun _ _ _ _ _ => pts_one (pt_cmpR (op_eqDK (K := K) rfl hr.units) (pe_lc (own := [("one", 12)]) (g := gName 12) rfl scLa.nd (pi_listK (K := K) rfl (pv 3)) (blkOk_by (N := NL) (sc := rel scZ1) (by decide +kernel)) (fun _ _ _ _ _ => pg_name (i := 12) scLa.nd rfl (Or.inl rfl))
          (fun _ _ _ _ _ => pts_one (PW.pt (pw_and (pt_cmpR op_ne (pv 12) (pv 6) (nomark _)) (pw_and1 (pt_cmpR op_eq (pe_slice sl_str (pv 12) po_none (po_some (pv 13))) (pe_slice sl_str (pv 6) po_none (po_some (pv 13))) (nomark _)))))) (fun _ _ _ _ _ => pv 12)) (pe_lst pa_nil) (nomark _))) (fun _ _ _ _ _ => pv 13))
    (pss_one (ps_set (i := 5) scLa.nd rfl (Or.inl rfl) (pe_op op_cat (pv 5) (pe_lst (pa_cons (pe_tup (pa_cons (pv 6) (pa_cons (pe_slice sl_str (pv 6) po_none (po_some (pe_ix ix_list (pv 7) pe_int (fun _ _ => rfl)))) pa_nil))) pa_nil)))))), fun D a d ln lq ns m v2 v6 v7 v8 v9 v10 v11 v12 v13 v14 H tk dk nln hln hlen hok m1 m10 nlq hlq k1 => ?_⟩
  refine ⟨_, rfl, ln, rfl, ⟨_, SqL.of hln⟩, fun D1 hD1 => lc_list (xs := ns.map V.str) (fun i G => GoD T d H G ∧ ∃ qs : List Addr, G D1 = some (.lst (qs.map V.ref)) ∧ Paired (fun p o => G p = some (.tup [.str o, .int 1])) qs (ns.take i)) ?_ ?_ ?_ ?_⟩
  · exact ⟨(GoD.refl tk dk).lay hD1, [], upd_same, .nil⟩
  · intro i G _ h
    exact SqL.of (h.1.at hln nln)
  · intro i x G hix h
    obtain ⟨g, qs, e1, pr⟩ := h
    obtain ⟨o, ho, rfl⟩ := str_at hix
    have n1 : D1 ≠ d := dk.ne hD1
    refine ⟨wipe_one, _, rfl, by show 2 ≤ sizeLine; decide, fun p hp => ?_⟩
    have np : D1 ≠ p := ne_of_none e1 hp
    have ql : qs.length = (ns.take i).length := pr.length
    refine ⟨qs.map V.ref, by rw [upd_ne np]; exact e1, ?_, (g.lay hp).put (fresh_none hD1) n1 (by rw [upd_ne np]; exact e1), qs ++ [p], ?_, ?_⟩
    · rw [List.length_map, ql, List.length_take, sizeLine_eq]
      omega
    · rw [upd_same, List.map_append]
      rfl
    · rw [List.take_add_one, ho]
      refine Paired.snoc (L2.Paired.mapP pr fun b c q => ?_) ?_
      · rw [upd_ne (fun z => by rw [z, e1] at q; cases q), upd_ne (ne_of_none q hp)]
        exact q
      · rw [upd_ne (Ne.symm np), upd_same]
  · intro G h
    obtain ⟨g, qs, e1, pr⟩ := h
    rw [show ns.take (ns.map V.str).length = ns by rw [List.length_map]; exact List.take_length] at pr
    have n1 : D1 ≠ d := dk.ne hD1
    refine ⟨D1, qs, ns.map fun o => ((Sum.inr o : Key), V.int 1), rfl, SqL.of e1, paired_map pr fun p o q => SqT.of q, fun p2 hp2 => ⟨p2, _, uniq ns, rfl, Rd.of upd_same, ?_, ?_, fun ys p pm so hp => ?_⟩⟩
    · rw [merge_uniq]
      unfold keyTab
      rw [List.map_map]
      rfl
    · have := uniq_len ns
      omega
    have ey := srt_eq pm so
    have yin : ∀ y ∈ ys, y ∈ ns := fun y hy => (mem_uniq ns y).mp (pm.mem_iff.mp hy)
    have yl : ys.length < 64 := by
      have := uniq_len ns
      rw [pm.length_eq]
      omega
    have gp := (g.lay (o := .dK (mergeK [] (ns.map fun o => ((Sum.inr o : Key), V.int 1)))) hp2)
    have npd : p ≠ d := gp.2.2.ne hp
    have gp2 := gp.lay (o := .lst (ys.map V.str)) hp
    refine ⟨p, rfl, ⟨_, SqL.of upd_same⟩, for_list (xs := ys.map V.str) (fun i σ G' => GoD T d H G' ∧ G' p = some (.lst (ys.map V.str)) ∧ ∃ l u6 u7, l ≠ d ∧ DueAt G' l ns m (ys.take i) ∧ σ = [some (.ref a), some (.ref d), v2, some (.ref ln), some (.int (m : Int)), some (.ref l), u6, u7, v8, v9, v10, v11, v12, v13, v14]) ?_ ?_ ?_ ?_⟩
    · exact ⟨gp2, upd_same, lq, v6, v7, nlq, ⟨[], gp2.at hlq nlq, .nil⟩, rfl⟩
    · intro i σ G' _ h
      exact SqL.of h.2.1
    · intro i x σ G' hix h
      obtain ⟨g', ep', l, u6, u7, nl, du, rfl⟩ := h
      obtain ⟨n, hn, rfl⟩ := str_at hix
      have nin := yin n (List.mem_of_getElem? hn)
      have n10 := isName_len (hok n nin)
      have szt : ∀ o : Str, o.cps.toList.length = 10 → o.length ≤ sizeLine := fun o h => by
        have e : o.length = 10 := by rw [← h, Array.length_toList]; rfl
        rw [e, sizeLine_eq]
        decide
      refine ⟨_, rfl, (m : Int), 11, rfl, ⟨by omega, by omega, by decide, by decide⟩, fun Dz hDz => lc_range (lo := (m : Int)) (n := ((11 : Int) - (m : Int)).toNat) (fun i2 G3 => GoD T d G' G3 ∧ G3 Dz = some (.lst ((szs ns n m i2).map fun k : Nat => V.int (k : Int)))) ?_ ?_ ?_⟩
      · exact ⟨(GoD.refl g'.2.1 g'.2.2).lay hDz, upd_same⟩
      · intro i2 G3 hi2 h
        obtain ⟨g3, ez⟩ := h
        have nz : Dz ≠ d := g'.2.2.ne hDz
        have hln3 := (g'.trans g3).at hln nln
        have k10 : m + i2 ≤ 10 := by omega
        refine ⟨rfl, _, rfl, ln, rfl, ⟨_, SqL.of hln3⟩, fun D2 hD2 => lc_list (xs := ns.map V.str) (fun j G4 => GoD T d G3 G4 ∧ G4 D2 = some (.lst ((same (ns.take j) n (m + i2)).map V.str))) ?_ ?_ ?_ ?_⟩
        · exact ⟨(GoD.refl g3.2.1 g3.2.2).lay hD2, upd_same⟩
        · intro j G4 _ h
          exact SqL.of (h.1.at hln3 nln)
        · intro j x G4 hjx h
          obtain ⟨g4, e2⟩ := h
          obtain ⟨o, ho, rfl⟩ := str_at hjx
          have o10 := isName_len (hok o (List.mem_of_getElem? ho))
          refine ⟨rfl, _, rfl, _, rfl, rfl, _, rfl, ?_⟩
          by_cases hon : o = n
          · refine iteF' (by rw [hon]; simp) (iteF' (by decide) ⟨g4, ?_⟩)
            rw [e2, List.take_add_one, ho]
            show _ = some (HO.lst ((same (ns.take j ++ [o]) n (m + i2)).map V.str))
            rw [same_snoc, if_neg (by simp [hon])]
          · refine iteT' (by simpa using hon) ⟨_, rfl, _, rfl, _, rfl, o, rfl, szt o o10, _, rfl, _, rfl, _, rfl, n, rfl, szt n n10, rfl, _, rfl, ?_⟩
            rw [show ((m : Int) + (i2 : Int)) = ((m + i2 : Nat) : Int) by omega, cut_eq o10 k10, cut_eq n10 k10, cutT_eq]
            by_cases ht : o.cps.toList.take (m + i2) = n.cps.toList.take (m + i2)
            · refine iteT' (by simpa using ht) ⟨_, rfl, _, e2, ?_, g4.put (g3.fresh hD2 |> fun _ => fresh_none hD2) (g3.2.2.ne hD2) e2, ?_⟩
              · have q1 : (same (ns.take j) n (m + i2)).length ≤ (ns.take j).length := List.length_filter_le ..
                rw [List.length_map, sizeLine_eq]
                rw [List.length_take] at q1
                omega
              · rw [upd_same, List.take_add_one, ho]
                show _ = some (HO.lst ((same (ns.take j ++ [o]) n (m + i2)).map V.str))
                rw [same_snoc, if_pos (by simp [hon, ht]), List.map_append]
                rfl
            · refine iteF' (by simpa using ht) ⟨g4, ?_⟩
              rw [e2, List.take_add_one, ho]
              show _ = some (HO.lst ((same (ns.take j ++ [o]) n (m + i2)).map V.str))
              rw [same_snoc, if_neg (by simp [hon, ht])]
        · intro G4 h
          obtain ⟨g4, e2⟩ := h
          rw [show ns.take (ns.map V.str).length = ns by rw [List.length_map]; exact List.take_length] at e2
          have fl : ∀ x ∈ (same ns n (m + i2)).map PyData.str, Flat x := fun x hx => by
            obtain ⟨o, hox, rfl⟩ := List.mem_map.mp hx
            exact flat_str (strOk_name (hok o (List.mem_filter.mp hox).1))
          have ez4 : G4 Dz = some (.lst ((szs ns n m i2).map fun k : Nat => V.int (k : Int))) := g4.at ez nz
          refine ⟨by decide, fun q hq => ⟨_, _, .lst (SqL.of (by rw [upd_ne (ne_of_none e2 hq)]; exact e2)) (dp_map (same ns n (m + i2)) (g := PyData.str) fun o _ => .str _), .lst (SqL.of upd_same) .nil, shaped_flat fl, by decide, ?_⟩⟩
          rw [eqv_nil, same_nil]
          refine ⟨_, rfl, ?_⟩
          have gq := (g3.trans g4).lay (o := .lst []) hq
          have ezq : upd G4 q (.lst []) Dz = some (.lst ((szs ns n m i2).map fun k : Nat => V.int (k : Int))) := by rw [upd_ne (ne_of_none ez4 hq)]; exact ez4
          by_cases hc : clash ns n (m + i2) = true
          · refine iteF' (by simp [hc]) ⟨gq, ?_⟩
            rw [ezq, szs_succ, if_pos hc]
          · refine iteT' (by simpa using hc) ⟨_, rfl, _, ezq, ?_, gq.put (fresh_none hDz) nz ezq, ?_⟩
            · have q1 := szs_len ns n m i2
              rw [List.length_map, sizeLine_eq]
              omega
            · rw [upd_same, szs_succ, if_neg hc, List.map_append]
              rfl
      · intro G3 h
        obtain ⟨g3, ez⟩ := h
        have ef : (szs ns n m ((11 : Int) - (m : Int)).toNat)[0]? = some (few ns n m) := by
          rw [show ((11 : Int) - (m : Int)).toNat = 11 - m by omega]
          exact szs_few hok nin m10
        have ei : ((szs ns n m ((11 : Int) - (m : Int)).toNat).map fun k : Nat => V.int (k : Int))[0]? = some (V.int ((few ns n m : Nat) : Int)) := by
          rw [List.getElem?_map, ef]
          rfl
        obtain ⟨ps, el, pr2⟩ := du.go g3 nl g'.2.2
        have plen : ps.length = (ys.take i).length := pr2.length
        refine ⟨_, rfl, _, rfl, _, rfl, _, rfl, Dz, _, _, _, rfl, rfl, SqL.of ez, atI_nat ei, _, rfl, n, rfl, szt n n10, by show 2 ≤ sizeLine; decide, fun pt hpt => ⟨by show 1 ≤ sizeLine; decide, fun pl hpl => ?_⟩⟩
        rw [cut_eq n10 (few_ten ns n m10)] at hpl ⊢
        have gt := (GoD.refl g3.2.1 g3.2.2).lay (o := .tup [.str n, .str (cutT n (few ns n m))]) hpt
        have gl := gt.lay (o := .lst [.ref pt]) hpl
        refine ⟨l, pl, ps.map V.ref, [.ref pt], rfl, rfl, gl.at el nl, upd_same, ?_, fun pc hpc => ?_⟩
        · rw [List.length_map, plen, List.length_take, sizeLine_eq]
          show min i ys.length + 1 ≤ _
          omega
        · have gc := gl.lay (o := .lst (ps.map V.ref ++ [.ref pt])) hpc
          have npt : pt ≠ d := g3.2.2.ne hpt
          have keep : ∀ {b : Addr} {u : HO}, G3 b = some u → (∀ q, u ≠ .tbl q) → b ≠ d → (upd (upd (upd G3 pt (.tup [.str n, .str (cutT n (few ns n m))])) pl (.lst [.ref pt])) pc (.lst (ps.map V.ref ++ [.ref pt]))) b = some u := fun e1 e2 e3 => gc.at e1 e3 e2
          refine ⟨(g'.trans g3).trans gc, keep (g3.at ep' npd) (fun _ z => by cases z) npd, pc, some (.str n), some (.ref Dz), gl.2.2.ne hpc, ⟨ps ++ [pt], ?_, ?_⟩, rfl⟩
          · rw [upd_same, List.map_append]
            rfl
          · rw [List.take_add_one, hn]
            obtain ⟨xs3, ed3, _⟩ := g3.2.2
            refine Paired.snoc (L2.Paired.mapP pr2 fun b c q => keep q (fun _ z => by cases z) fun z => by rw [z, ed3] at q; cases q) ?_
            rw [upd_ne (fun z => by rw [← z, upd_ne (ne_of_none upd_same hpl), upd_same] at hpc; cases hpc), upd_ne (ne_of_none upd_same hpl), upd_same]
            rfl
    · intro σ G' h
      obtain ⟨g', ep', l, u6, u7, nl, du, rfl⟩ := h
      rw [show ys.take (ys.map V.str).length = ys by rw [List.length_map]; exact List.take_length, ey] at du
      exact k1 _ l u6 u7 g' nl du
end
end K1
end Text_K2c
section Text_K2d
set_option Elab.async false
set_option linter.all false
set_option maxRecDepth 100000
set_option maxHeartbeats 4000000
namespace K1
open PySem PySem.Spec PyProof.Rows L2 Gx GxR LamY
theorem go_ext {T : Tb} {H H' : Hp} (t : TOk T H) (e : ∀ b o, H b = some o → H' b = some o) : Go T H H' := by
  have k : ∀ a, TabG H a → TabG H' a := fun a ta => by
    obtain ⟨ps, h, q⟩ := ta
    exact ⟨ps, e _ _ h, q⟩
  exact ⟨fun b o h _ => e b o h, k _ t.c, k _ t.i, k _ t.s, t.p.ext e, t.nc, t.ni, t.ns⟩
theorem paired_un {α β γ : Type} {F : α → γ → Prop} {F' : α → β → Prop} {g : β → γ} : ∀ {l : List α} {r : List β}, Paired F l (r.map g) → (∀ a b, F a (g b) → F' a b) → Paired F' l r
  | _, [], .nil, _ => .nil
  | _, _ :: _, .cons x y, h => .cons (h _ _ x) (paired_un y h)
def rowD (ns : List Str) (m : Nat) (n : Str) : PyData := .tuple [.str n, .str (cutT n (few ns n m))]
theorem dp_rows {K : PySem.W.Frag} {H : Hp} {ns : List Str} {m : Nat} : ∀ {ps : List Addr} {qs : List Str}, Paired (fun p n => H p = some (.tup (rowOf ns m n))) ps qs → DpAll K H (ps.map V.ref) (qs.map (rowD ns m))
  | _, _, .nil => .nil
  | _, _, .cons h r => .cons (.tup (SqT.of h) (.cons (.str _) (.cons (.str _) .nil))) (dp_rows r)
theorem flat_row {ns : List Str} {m : Nat} {n : Str} (h : isName n = true) : Flat (rowD ns m n) := by
  have h1 := strOk_name h
  have h2 : PyData.strOk (cutT n (few ns n m)) = true := strOk_of fun c hc => by
    unfold cutT at hc
    rw [tx_list] at hc
    have h3 := (Bool.and_eq_true_iff.mp h).2
    exact let_ok c (of_decide_eq_true (List.all_eq_true.mp h3 c (List.mem_of_mem_take hc)))
  obtain ⟨a1, a2, a3⟩ := flats (ds := [.str n, .str (cutT n (few ns n m))]) fun d hd => by
    rcases List.mem_cons.mp hd with e | hd
    · rw [e]; exact flat_str h1
    · rw [List.mem_singleton.mp hd]; exact flat_str h2
  exact ⟨a1, by show max 0 (max 0 0) + 1 ≤ 2; decide, a3⟩
section
variable {P : Program} {w : World} {K : PySem.W.Frag} {mg : Str → Option Value} {base : Heap} {T : Tb} {CS cc ci cs fC fN fD fS fU fI fR fO fA fB fP : Addr} {fdC fdN fdD fdS fdU fdI fdR fdO fdA fdB fdP : FuncData}
/-- the shortest beginnings are what is due -/
theorem st_short {f : Addr} {cdv : Value} {A : Around} {outer : List Env} {s : Shared} {H00 : Hp} {E : XK} (hr : Room 9 (A.deeper (envOfC "law" (defScope sLaw) s.heap.objs.size f cdv))) (X : Tx K mg base T CS cc ci cs) (R : Raisers P w K mg base T CS fC fN fD fS fU fdC fdN fdD fdS fdU) :
    ∃ t, PS (lawCx P w K mg base f cdv A outer s H00 E) (lawBody.getD 7 noS) t ∧ ∀ (D : Ends) (a d ln l : Addr) (ns : List Str) (m : Nat) (v2 v6 v7 v8 v9 v10 v11 v12 v13 v14 : Option V) (H : Hp), TOk T H → DiceAt H d → ln ≠ d → H ln = some (.lst (ns.map V.str)) → ns.length < 64 → namesOk ns → 1 ≤ m → m ≤ 10 → l ≠ d → DueAt H l ns m (srt (uniq ns)) →
      (∀ (H' : Hp), GoD T d H H' → D.nx [some (.ref a), some (.ref d), v2, some (.ref ln), some (.int (m : Int)), some (.ref l), v6, v7, v8, v9, v10, v11, v12, v13, v14] H') →
      t D [some (.ref a), some (.ref d), v2, some (.ref ln), some (.int (m : Int)), some (.ref l), v6, v7, v8, v9, v10, v11, v12, v13, v14] H := by
  refine ⟨_, ps_if (pt_cmpR (op_neD hr.units) (LiI.pe_listItems rfl (pe_call R.GS (hr.mono (by decide)) rfl R.mS R.kS R.bS .nil passN (pa_cons (pv 3) (pa_cons (pv 4) pa_nil))) rfl X.list (by decide +kernel)) (pv 5) (nomark _)) (pss_one (ps_ret pe_bl)) pss_nil, fun D a d ln l ns m v2 v6 v7 v8 v9 v10 v11 v12 v13 v14 H tk dk nln hln hlen hok m1 m10 nl du k1 => ?_⟩
  have sm : small ns := ⟨hlen, fun x hx => by
    have := isName_len (hok x hx)
    rw [Array.length_toList] at this
    show x.cps.size ≤ 1000
    omega⟩
  refine ⟨_, rfl, _, rfl, ln, ns, (m : Int), rfl, SqL.of hln, sm, tk, fun _ G1 d1 g1 e1 => ?_, fun ng => absurd ⟨by omega, by omega, hok⟩ ng⟩
  have gd1 := GoD.of dk g1
  rw [Int.toNat_natCast] at e1
  refine ⟨d1, _, rfl, e1, fun H' p ts kp hp _ _ ep pr => ⟨_, rfl, ?_⟩⟩
  have gx : GoD T d H H' := gd1.go (go_ext g1.2 kp)
  obtain ⟨ps, el, pr2⟩ := du.go gx nl dk
  have pr3 : Paired (fun p n => H' p = some (.tup (rowOf ns m n))) ts (srt (uniq ns)) := paired_un pr fun t n q => q
  have fl : ∀ x ∈ (srt (uniq ns)).map (rowD ns m), Flat x := fun x hx => by
    obtain ⟨n, hn, rfl⟩ := List.mem_map.mp hx
    exact flat_row (hok n ((mem_uniq ns n).mp ((srt_perm _).mem_iff.mp hn)))
  refine ⟨_, _, .lst (SqL.of ep) (dp_rows pr3), .lst (SqL.of el) (dp_rows pr2), shaped_flat fl, shaped_flat fl, ?_⟩
  rw [eqv_flat fl]
  exact ⟨_, rfl, iteF' (by decide) (k1 _ gx)⟩
end
end K1
end Text_K2d
section Text_K2e
set_option Elab.async false
set_option linter.all false
set_option maxRecDepth 100000
set_option maxHeartbeats 4000000
namespace K1
open PySem PySem.Spec PyProof.Rows L2 Gx GxR LamY
def spLaw (K : PySem.W.Frag) (T : Tb) : Sp := fun vs H Q _ => ∃ a xs, vs = [.ref a] ∧ SqL K H a xs ∧ intsV xs ∧ TOk T H ∧ ∀ H', Q (.bl true) H'
section
variable {P : Program} {w : World} {K : PySem.W.Frag} {mg : Str → Option Value} {base : Heap} {T : Tb} {CS cc ci cs fC fN fD fS fU fI fR fO fA fB fP : Addr} {fdC fdN fdD fdS fdU fdI fdR fdO fdA fdB fdP : FuncData}
theorem ok_law {f : Addr} {fd : FuncData} (F : Fun K "law" "law" sLaw f fd) (X : Tx K mg base T CS cc ci cs) (R : Raisers P w K mg base T CS fC fN fD fS fU fdC fdN fdD fdS fdU) (L : Laws P w K mg base T fI fR fO fA fB fP fdI fdR fdO fdA fdB fdP) : FnOk P w K mg base CX0 10 f fd ["script"] (spLaw K T) := by
  refine F.ok scLa (fun vs H Q E h => ?_) (fun cdv A outer s H vs Q E hr h => ?_)
  · obtain ⟨a, xs, rfl, _⟩ := h
    rfl
  · obtain ⟨a, xs, rfl, hx, hi, tk, k1⟩ := h
    obtain ⟨t0, p0, q0⟩ := st_texts (H00 := H) (E := E) (outer := outer) (s := s) (cdv := cdv) (f := f) hr X L
    obtain ⟨t1, p1, q1⟩ := st_num (H00 := H) (E := E) (outer := outer) (s := s) (cdv := cdv) (f := f) hr R L
    obtain ⟨t2, p2, q2⟩ := st_dig (H00 := H) (E := E) (outer := outer) (s := s) (cdv := cdv) (f := f) hr R L
    obtain ⟨t3, p3, q3⟩ := st_sum (H00 := H) (E := E) (outer := outer) (s := s) (cdv := cdv) (f := f) hr X R L
    obtain ⟨t4, p4, q4⟩ := st_names (H00 := H) (E := E) (outer := outer) (s := s) (cdv := cdv) (f := f) hr X L
    obtain ⟨t6, p6, q6⟩ := st_due (H00 := H) (E := E) (outer := outer) (s := s) (cdv := cdv) (f := f) hr X L
    obtain ⟨t7, p7, q7⟩ := st_short (H00 := H) (E := E) (outer := outer) (s := s) (cdv := cdv) (f := f) hr X R
    obtain ⟨t8, p8, q8⟩ := st_line (H00 := H) (E := E) (outer := outer) (s := s) (cdv := cdv) (f := f) hr X L
    obtain ⟨t9, p9, q9⟩ := st_isn (H00 := H) (E := E) (outer := outer) (s := s) (cdv := cdv) (f := f) hr X L
    refine ⟨_, pss_cons (ps_for PassesOwn.never rfl (pi_list (pe_call L.GR (hr.mono (by decide)) rfl L.mR L.kR L.bR .nil pass0 (pa_cons (pv 0) (pa_cons pe_int pa_nil)))) (pg_name (i := 1) scLa.nd rfl (Or.inr rfl))
        (pss_cons p0 (pss_cons p1 (pss_cons p2 (pss_cons p3 (pss_cons p4 (pss_cons (ps_set (i := 5) scLa.nd rfl (Or.inl rfl) (pe_lst pa_nil)) (pss_cons p6 (pss_cons p7 (pss_cons p8 (pss_one p9)))))))))))
      (pss_one (ps_ret (pe_call0 L.GP (hr.mono (by decide)) rfl L.mP L.kP L.bP .nil pass0))), ?_⟩
    refine ⟨_, rfl, a, xs, rfl, hx, hi, tk, fun G0 l d g0 el dk nl => ⟨l, rfl, ⟨_, SqL.of el⟩, for_list (xs := [.ref d]) (fun i σ G => GoD T d G0 G ∧ (i = 0 → σ = L2.start NL [.ref a])) ?_ ?_ ?_ ?_⟩⟩
    · exact ⟨GoD.refl g0.2 dk, fun _ => rfl⟩
    · intro i σ G _ h
      exact SqL.of (h.1.at el nl)
    · intro i x σ G hix h
      obtain ⟨g, hs⟩ := h
      cases i with
      | succ i => cases hix
      | zero =>
        cases hix
        rw [hs rfl]
        refine q0 _ a d none none none none none none none none none none none none none G g.2.1 g.2.2 fun G1 lt ts g1 nlt flt elt h4 hg => ?_
        refine q1 _ a d lt ts none none none none none none none none none none none none G1 g1.2.1 g1.2.2 nlt elt h4 hg fun G2 g2 => ?_
        refine q2 _ a d lt ts none none none none none none none none none none none none G2 g2.2.1 g2.2.2 nlt (g2.at elt nlt) h4 hg fun G3 g3 => ?_
        refine q3 _ a d lt ts none none none none none none none none none none none none G3 g3.2.1 g3.2.2 nlt ((g2.trans g3).at elt nlt) h4 hg fun G4 g4 => ?_
        refine q4 _ a d (some (.ref lt)) none none none none none none none none none none none none G4 g4.2.1 g4.2.2 fun G5 ln ns m g5 nln fln eln hlen hok m1 m10 => ?_
        refine ⟨by decide, fun lq hlq => ?_⟩
        have g6 := (GoD.refl g5.2.1 g5.2.2).lay (o := .lst []) hlq
        have nlq := g5.2.2.ne hlq
        refine q6 _ a d ln lq ns m (some (.ref lt)) none none none none none none none none none _ g6.2.1 g6.2.2 nln (g6.at eln nln) hlen hok m1 m10 nlq upd_same fun G7 lr u6 u7 g7 nlr du => ?_
        refine q7 _ a d ln lr ns m (some (.ref lt)) u6 u7 none none none none none none none G7 g7.2.1 g7.2.2 nln ((g6.trans g7).at eln nln) hlen hok m1 m10 nlr du fun G8 g8 => ?_
        refine q8 _ a d (some (.ref lt)) (some (.ref ln)) (some (.int (m : Int))) (some (.ref lr)) u6 u7 none none none none none none none G8 g8.2.1 g8.2.2 fun G9 ll g9 hll hlc => ?_
        refine q9 _ a d ll (some (.ref lt)) (some (.ref ln)) (some (.int (m : Int))) (some (.ref lr)) u6 u7 none none none none none none G9 g9.2.1 g9.2.2 hll hlc fun G10 g10 => ?_
        exact ⟨((((((((((g.trans g1).trans g2).trans g3).trans g4).trans g5).trans g6).trans g7).trans g8).trans g9).trans g10), fun z => by cases z⟩
    · intro σ G h
      exact ⟨rfl, h.1.2.1, fun G' _ => k1 G'⟩
end
end K1
end Text_K2e
section Text_K2f
set_option Elab.async false
set_option linter.all false
set_option maxRecDepth 100000
set_option maxHeartbeats 4000000
namespace K1
open PySem PySem.Spec PyProof.Rows L2 Gx GxR LamY
theorem tab_in {K : PySem.W.Frag} {x : Str} {f c P : Addr} {oc ov : Value} {od odc : Option Addr} {fd : FuncData} {sl slc : Array (Option Value)} {vs : Array Value} (a : PySem.W.nsIn K mainGlobals x = some (some (.ref f))) (l : K.lookup f = some ⟨oc, od, .func fd, sl⟩)
    (hc : fd.code = .ref c) (t : K.lookup c = some ⟨ov, odc, .fields vs, slc⟩) (e : (vs[11]? : Option Value) = some (.ref P)) : PySem.W.tabIn K x = some (c, P) := by
  unfold PySem.W.tabIn
  rw [a]
  show (match K.lookup f with | some ⟨_, _, .func fd, _⟩ => _ | _ => none) = _
  rw [l]
  show (match fd.code with | .ref c => _ | _ => none) = _
  rw [hc]
  show (match K.lookup c with | some ⟨_, _, .fields vs, _⟩ => _ | _ => none) = _
  rw [t]
  show (match (vs[11]? : Option Value) with | some (.ref P) => some (c, P) | _ => none) = _
  rw [e]
  all_goals rfl
/-- a def as the top has made it -/
structure At (K : PySem.W.Frag) (x : Str) (st : Stmt) (f : Addr) (fd : FuncData) : Prop where
  n : PySem.W.nsIn K mainGlobals x = some (some (.ref f))
  f : Fun K x x st f fd
structure AtC (K : PySem.W.Frag) (x : Str) (st : Stmt) (f c : Addr) (fd : FuncData) : Prop where
  n : PySem.W.nsIn K mainGlobals x = some (some (.ref f))
  f : FunC K x x st f c fd
/-- names that the top has bound, errors -/
structure Base (K : PySem.W.Frag) (CS : Addr) : Prop where
  any : PySem.W.nsIn K mainGlobals "any" = some none
  all : PySem.W.nsIn K mainGlobals "all" = some none
  len : PySem.W.nsIn K mainGlobals "len" = some none
  sorted : PySem.W.nsIn K mainGlobals "sorted" = some none
  range : PySem.W.nsIn K mainGlobals "range" = some none
  abs : PySem.W.nsIn K mainGlobals "abs" = some none
  int : PySem.W.nsIn K mainGlobals "int" = some none
  dict : PySem.W.nsIn K mainGlobals "dict" = some none
  list : PySem.W.nsIn K mainGlobals "list" = some none
  sig : ∃ t, PySem.W.nsIn K mainGlobals "SIGNS" = some (some (.str sigT t))
  let_ : ∃ t, PySem.W.nsIn K mainGlobals "LETTERS" = some (some (.str letT t))
  size : ∃ t, PySem.W.nsIn K mainGlobals "SIZE" = some (some (.int 10 t))
  end_ : ∃ t, PySem.W.nsIn K mainGlobals "END" = some (some (.str "\n" t))
  prime : ∃ t, PySem.W.nsIn K mainGlobals "PRIME" = some (some (.int 2305843009213693951 t))
  gC : PySem.W.nsIn K mainGlobals "SignError" = some (some (.ref CS))
  xC : PySem.W.excIn K CS [.type "ValueError", .type "Exception", .type "BaseException", .type "object"] "ValueError.__new__" = true
  kC : PySem.W.keepIn K (.ref CS) = true
  bC : PySem.W.subIn K (.ref CS) (.type "BaseException") = some true
  tC : PySem.W.typeIn K (.ref CS) = some (.type "type")
  iC : PySem.W.isClsIn K CS = true
  sC : PySem.W.subIn K (.ref CS) (.ref CS) = some true
theorem at_mk {K : PySem.W.Frag} {x : Str} {st : Stmt} {f : Addr} {oc kV doc pm cdv ct : Value} {od an : Option Addr} {osl : Array (Option Value)} (n : PySem.W.nsIn K mainGlobals x = some (some (.ref f))) (l : K.lookup f = some ⟨oc, od, .func (PySem.W.fnOf x x (defArgs st) (defBody st) (defScope st) .none kV doc pm an cdv ct), osl⟩)
    (c : PySem.W.codeIn K cdv x = true) (k : PySem.W.keepIn K (.ref f) = true) : At K x st f (PySem.W.fnOf x x (defArgs st) (defBody st) (defScope st) .none kV doc pm an cdv ct) := ⟨n, ⟨⟨_, _, _, _, _, _, _, _, _, rfl, l, c⟩, k⟩⟩
theorem atC_mk {K : PySem.W.Frag} {x : Str} {st : Stmt} {f cd : Addr} {oc kV doc pm ct : Value} {od an : Option Addr} {osl : Array (Option Value)} (n : PySem.W.nsIn K mainGlobals x = some (some (.ref f))) (l : K.lookup f = some ⟨oc, od, .func (PySem.W.fnOf x x (defArgs st) (defBody st) (defScope st) .none kV doc pm an (.ref cd) ct), osl⟩)
    (c : PySem.W.codeIn K (.ref cd) x = true) (k : PySem.W.keepIn K (.ref f) = true) : AtC K x st f cd (PySem.W.fnOf x x (defArgs st) (defBody st) (defScope st) .none kV doc pm an (.ref cd) ct) := ⟨n, ⟨⟨_, _, _, _, _, _, _, _, rfl, l, c⟩, k⟩⟩
theorem tabB {base : Heap} {mg : Str → Option Value} {c P : Addr} (t : LamX.TabB base mg c P) : TabB base mg c P := ⟨t.code, t.bm, t.gP⟩
theorem base_mk {K : PySem.W.Frag} {CS : Addr} {t1 t2 t3 t4 t5 : Tok} (z1 : PySem.W.nsIn K mainGlobals "any" = some none) (z2 : PySem.W.nsIn K mainGlobals "all" = some none) (z3 : PySem.W.nsIn K mainGlobals "len" = some none) (z4 : PySem.W.nsIn K mainGlobals "sorted" = some none) (z5 : PySem.W.nsIn K mainGlobals "range" = some none) (z6 : PySem.W.nsIn K mainGlobals "abs" = some none) (z7 : PySem.W.nsIn K mainGlobals "int" = some none) (z8 : PySem.W.nsIn K mainGlobals "dict" = some none) (z9 : PySem.W.nsIn K mainGlobals "list" = some none)
   (v1 : PySem.W.nsIn K mainGlobals "SIGNS" = some (some (.str sigT t1))) (v2 : PySem.W.nsIn K mainGlobals "LETTERS" = some (some (.str letT t2))) (v3 : PySem.W.nsIn K mainGlobals "SIZE" = some (some (.int 10 t3))) (v4 : PySem.W.nsIn K mainGlobals "END" = some (some (.str "\n" t4))) (v5 : PySem.W.nsIn K mainGlobals "PRIME" = some (some (.int 2305843009213693951 t5)))
    (gC : PySem.W.nsIn K mainGlobals "SignError" = some (some (.ref CS))) (xC : PySem.W.excIn K CS [.type "ValueError", .type "Exception", .type "BaseException", .type "object"] "ValueError.__new__" = true) (kC : PySem.W.keepIn K (.ref CS) = true)
    (bC : PySem.W.subIn K (.ref CS) (.type "BaseException") = some true) (tC : PySem.W.typeIn K (.ref CS) = some (.type "type")) (iC : PySem.W.isClsIn K CS = true) (sC : PySem.W.subIn K (.ref CS) (.ref CS) = some true) : Base K CS :=
  ⟨z1, z2, z3, z4, z5, z6, z7, z8, z9, ⟨_, v1⟩, ⟨_, v2⟩, ⟨_, v3⟩, ⟨_, v4⟩, ⟨_, v5⟩, gC, xC, kC, bC, tC, iC, sC⟩
theorem Base.tx {K : PySem.W.Frag} {mg : Str → Option Value} {base h : Heap} {T : Tb} {CS cc ci cs : Addr} (B : Base K CS) (X : K.In h) (G : h.Ns mainGlobals mg) (bc : LamX.TabB base mg cc T.c) (bi : LamX.TabB base mg ci T.i) (bs : LamX.TabB base mg cs T.s) : Tx K mg base T CS cc ci cs :=
  ⟨PySem.W.mg_none_of X G B.any, PySem.W.mg_none_of X G B.all, PySem.W.mg_none_of X G B.len, PySem.W.mg_none_of X G B.sorted, PySem.W.mg_none_of X G B.range, PySem.W.mg_none_of X G B.abs, PySem.W.mg_none_of X G B.int, PySem.W.mg_none_of X G B.dict, PySem.W.mg_none_of X G B.list,
   B.sig.imp fun _ e => PySem.W.mg_of X G e, B.let_.imp fun _ e => PySem.W.mg_of X G e, B.size.imp fun _ e => PySem.W.mg_of X G e, B.end_.imp fun _ e => PySem.W.mg_of X G e, B.prime.imp fun _ e => PySem.W.mg_of X G e,
   PySem.W.mg_of X G B.gC, B.xC, B.kC, B.bC, B.tC, B.iC, B.sC, tabB bc, tabB bi, tabB bs⟩
theorem law_at {l : PySem.W.OpenLaw} {w : World} {K : PySem.W.Frag} {h : Heap} {mg : Str → Option Value} {fa CS cc ci cs cp pc pi ps pp f0 f1 f2 f3 f4 f5 f6 f7 f8 f9 f10 f11 f12 f13 : Addr} {fd0 fd1 fd2 fd3 fd4 fd5 fd6 fd7 fd8 fd9 fd10 fd11 fd12 fd13 : FuncData} (X : K.In h) (G : h.Ns mainGlobals mg) (hfa : mg "law" = some (.ref fa)) (B : Base K CS)
    (A0 : AtC K "check_text" sCheck f0 cc fd0)
    (A1 : At K "number_of" sNumber f1 fd1)
    (A2 : At K "digest" sDigest f2 fd2)
    (A3 : AtC K "is_name" sIsName f3 ci fd3)
    (A4 : AtC K "shortest" sShort f4 cs fd4)
    (A5 : At K "sum_of" sSum f5 fd5)
    (A6 : At K "_law_dice" sDice f6 fd6)
    (A7 : At K "_law_roll" sRoll f7 fd7)
    (A8 : At K "_law_rounds" sRounds f8 fd8)
    (A9 : At K "_law_told" sTold f9 fd9)
    (A10 : At K "_law_number" sLNum f10 fd10)
    (A11 : At K "_law_digest" sLDig f11 fd11)
    (A12 : AtC K "_law_plain" sPlain f12 cp fd12)
    (A13 : At K "law" sLaw f13 fd13)
    (tc : PySem.W.CodeHd h cc pc ∧ h.get? pc = some (PySem.W.tabObj #[])) (ti : PySem.W.CodeHd h ci pi ∧ h.get? pi = some (PySem.W.tabObj #[])) (ts : PySem.W.CodeHd h cs ps ∧ h.get? ps = some (PySem.W.tabObj #[])) (tp : PySem.W.CodeHd h cp pp ∧ h.get? pp = some (PySem.W.tabObj #[]))
    (nc : K.lookup pc = none) (ni : K.lookup pi = none) (ns : K.lookup ps = none) (np : K.lookup pp = none) (ec : pp ≠ pc) (ei : pp ≠ pi) (es : pp ≠ ps) :
    LamX.LawAtS l w K CX0 10 63 "script" mg fa h := by
  have e := hfa.symm.trans (PySem.W.mg_of X G A13.n)
  cases e
  have b0 := A0.f.fn.binds (ps := ["text"]) fun _ _ _ _ _ _ us hl => match us, hl with | [_], _ => rfl
  have m0 := PySem.W.mg_of X G A0.n
  have k0 := A0.f.fn.kp
  have b1 := A1.f.binds (ps := ["text"]) fun _ _ _ _ _ _ us hl => match us, hl with | [_], _ => rfl
  have m1 := PySem.W.mg_of X G A1.n
  have k1 := A1.f.kp
  have b2 := A2.f.binds (ps := ["text"]) fun _ _ _ _ _ _ us hl => match us, hl with | [_], _ => rfl
  have m2 := PySem.W.mg_of X G A2.n
  have k2 := A2.f.kp
  have b3 := A3.f.fn.binds (ps := ["text"]) fun _ _ _ _ _ _ us hl => match us, hl with | [_], _ => rfl
  have m3 := PySem.W.mg_of X G A3.n
  have k3 := A3.f.fn.kp
  have b4 := A4.f.fn.binds (ps := ["names", "least"]) fun _ _ _ _ _ _ us hl => match us, hl with | [_, _], _ => rfl
  have m4 := PySem.W.mg_of X G A4.n
  have k4 := A4.f.fn.kp
  have b5 := A5.f.binds (ps := ["names"]) fun _ _ _ _ _ _ us hl => match us, hl with | [_], _ => rfl
  have m5 := PySem.W.mg_of X G A5.n
  have k5 := A5.f.kp
  have b6 := A6.f.binds (ps := ["cell"]) fun _ _ _ _ _ _ us hl => match us, hl with | [_], _ => rfl
  have m6 := PySem.W.mg_of X G A6.n
  have k6 := A6.f.kp
  have b7 := A7.f.binds (ps := ["dice", "many"]) fun _ _ _ _ _ _ us hl => match us, hl with | [_, _], _ => rfl
  have m7 := PySem.W.mg_of X G A7.n
  have k7 := A7.f.kp
  have b8 := A8.f.binds (ps := ["script", "most"]) fun _ _ _ _ _ _ us hl => match us, hl with | [_, _], _ => rfl
  have m8 := PySem.W.mg_of X G A8.n
  have k8 := A8.f.kp
  have b9 := A9.f.binds (ps := ["what"]) fun _ _ _ _ _ _ us hl => match us, hl with | [_], _ => rfl
  have m9 := PySem.W.mg_of X G A9.n
  have k9 := A9.f.kp
  have b10 := A10.f.binds (ps := ["text"]) fun _ _ _ _ _ _ us hl => match us, hl with | [_], _ => rfl
  have m10 := PySem.W.mg_of X G A10.n
  have k10 := A10.f.kp
  have b11 := A11.f.binds (ps := ["text"]) fun _ _ _ _ _ _ us hl => match us, hl with | [_], _ => rfl
  have m11 := PySem.W.mg_of X G A11.n
  have k11 := A11.f.kp
  have b12 := A12.f.fn.binds (ps := []) fun _ _ _ _ _ _ us hl => match us, hl with | [], _ => rfl
  have m12 := PySem.W.mg_of X G A12.n
  have k12 := A12.f.fn.kp
  let T : Tb := ⟨pc, pi, ps, pp⟩
  have all4 : ∀ {p : Addr → Addr → Prop}, p cc pc → p ci pi → p cs ps → p cp pp → ∀ q ∈ [(cc, pc), (ci, pi), (cs, ps), (cp, pp)], p q.1 q.2 := fun h1 h2 h3 h4 q hq => by
    simp only [List.mem_cons, List.not_mem_nil, or_false] at hq
    rcases hq with rfl | rfl | rfl | rfl
    · exact h1
    · exact h2
    · exact h3
    · exact h4
  refine ⟨fd13, [(cc, pc), (ci, pi), (cs, ps), (cp, pp)], spLaw K T, all4 (p := fun _ b => h.get? b = some { cls := .none, data := .fields #[] }) tc.2 ti.2 ts.2 tp.2, all4 (p := fun _ b => K.lookup b = none) nc ni ns np, all4 (p := fun a b => PySem.W.CodeHd h a b) tc.1 ti.1 ts.1 tp.1, ?_, ?_, ?_⟩
  · intro s u
    obtain ⟨oc, od, kV, doc, pm, an, cdv, ct, osl, rfl, lk, hcd⟩ := A13.f.ex
    exact .of_eq rfl
  · intro H a ns _ _ hT hS
    have g : ∀ q ∈ [(cc, pc), (ci, pi), (cs, ps), (cp, pp)], H q.2 = some (.tbl #[]) := hT
    have hc := g (cc, pc) (by simp)
    have hi := g (ci, pi) (by simp)
    have hs := g (cs, ps) (by simp)
    have hp := g (cp, pp) (by simp)
    refine ⟨a, _, rfl, hS, fun x hx => ?_, ⟨⟨#[], hc, True.intro⟩, ⟨#[], hi, True.intro⟩, ⟨#[], hs, True.intro⟩, LamX.TabS.nil hp, ec, ei, es⟩, fun _ => rfl⟩
    obtain ⟨n, _, rfl⟩ := List.mem_map.mp hx
    exact ⟨n, rfl⟩
  · intro base _ _ hB
    have g : ∀ q ∈ [(cc, pc), (ci, pi), (cs, ps), (cp, pp)], LamX.TabB base mg q.1 q.2 := hB
    have hp := g (cp, pp) (by simp)
    have T0 : Tx K mg base T CS cc ci cs := B.tx X G (g (cc, pc) (by simp)) (g (ci, pi) (by simp)) (g (cs, ps) (by simp))
    have G0 := ok_check (P := l.prog) (w := w) A0.f T0
    have G1 := ok_number A1.f T0 G0 m0 k0 b0
    have G2 := ok_digest A2.f T0 G1 m1 k1 b1
    have G3 := ok_isName (P := l.prog) (w := w) A3.f T0
    have G4 := ok_short A4.f T0 G3 m3 k3 b3
    have G5 := ok_sum A5.f T0 G2 m2 k2 b2
    have G6 := ok_dice (P := l.prog) (w := w) A6.f T0
    have G7 := ok_roll (P := l.prog) (w := w) A7.f T0
    have G8 := ok_rounds A8.f T0 G6 m6 k6 b6
    have R : Raisers l.prog w K mg base T CS f0 f1 f2 f4 f5 fd0 fd1 fd2 fd4 fd5 := ⟨G0, m0, k0, b0, G1, m1, k1, b1, G2, m2, k2, b2, G4, m4, k4, b4, G5, m5, k5, b5⟩
    have G9 := ok_told A9.f T0 R
    have G10 := ok_lnum (P := l.prog) (w := w) A10.f T0
    have G11 := ok_ldig A11.f T0 G10 m10 k10 b10
    have G12 := ok_plain A12.f T0 hp R G9 m9 k9 b9
    exact ok_law A13.f T0 R ⟨G3, m3, k3, b3, G8, m8, k8, b8, G7, m7, k7, b7, G10, m10, k10, b10, G11, m11, k11, b11, G12, m12, k12, b12⟩
theorem walk {l : PySem.W.OpenLaw} {q : Program} {loose : List Str} {XP : (Str → Option Value) → Heap → Prop} {YP : World → Heap → Prop} {d : DefRec} {K : Params → PySem.W.Frag} (hn : l.most = some 63) (hdf : d.params.defaults = [])
    (hY : ∀ (w : World) (h : Heap), YP w h → (K w.params).In h)
    (F : ∀ (w : World) (mg mb : Str → Option Value) (mean : ExcName → Option Value) (fa : Addr) (h : Heap), PyProof.Rows.Top q (PySem.W.looseW q loose) mean mg mb h → (K w.params).In h → h.Ns mainGlobals mg → mg d.name = some (.ref fa) → LamX.LawAtS l w (K w.params) CX0 10 63 "script" mg fa h) :
    PySem.W.WalkO q loose XP YP l.row.toRowW d [] (fun f vs => PySem.call f vs) := by
  refine Att.attach_callB hn hdf fun w s₀ s₁ mg mb fa o pm cd doc a vs ns G Y ho hd hcd hmg hobj hints hlen hbits hg => ?_
  have KX := hY w _ Y
  obtain ⟨fd, cs, sp, hT, nT, C, hb, hsp, hF⟩ := F w mg mb _ fa _ G.T KX G.T.g hmg
  exact LamX.law_callTs KX G.T.g G.T.b G.T.builtins G.T.nolimit hg hT nT C G.T.bmain hobj hints (Nat.le_trans hlen (by decide)) ⟨rfl, by decide, by decide⟩ hF hb (fun H hH hS => hsp H a ns hlen hbits hH hS) fun H e s' z => z
end K1
end Text_K2f
section Text_K2g
set_option Elab.async false
set_option linter.all false
open PySem PySem.W PyProof.Rows
set_option maxRecDepth 100000 in
set_option maxHeartbeats 0 in
theorem PySem.Challenge.cw_repostack_k01_digests_of_texts_holds : PySem.Challenge.rw_repostack_k01_digests_of_texts.Holds := by
  w_on; o_law; k_head; (case hw => w_witness2)
  k_fill
  refine K1.walk (l := PySem.Challenge.rw_repostack_k01_digests_of_texts) rfl rfl (fun w h Y => by first | exact PySem.W.kIn_of Y | exact PySem.W.km_in_of Y) ?F
  case F =>
    intro w mg mb mean fa h T KX G hmg0
    have hmg : mg (PySem.Str.ofString "law") = some (.ref fa) := hmg0
    clear hmg0
    refine' K1.law_at KX G hmg ?B ?A0 ?A1 ?A2 ?A3 ?A4 ?A5 ?A6 ?A7 ?A8 ?A9 ?A10 ?A11 ?A12 ?A13 ?tc ?ti ?ts ?tp ?nc ?ni ?ns ?np ?ec ?ei ?es
    case B =>
      refine' K1.base_mk ?z1 ?z2 ?z3 ?z4 ?z5 ?z6 ?z7 ?z8 ?z9 ?v1 ?v2 ?v3 ?v4 ?v5 ?gC ?xC ?kC ?bC ?tC ?iC ?sC
      (case z1 => k_is)
      (case z2 => k_is)
      (case z3 => k_is)
      (case z4 => k_is)
      (case z5 => k_is)
      (case z6 => k_is)
      (case z7 => k_is)
      (case z8 => k_is)
      (case z9 => k_is)
      (case v1 => k_is)
      (case v2 => k_is)
      (case v3 => k_is)
      (case v4 => k_is)
      (case v5 => k_is)
      (case gC => k_is); (case xC => k_exc); (case kC => k_is); (case bC => k_is); (case tC => k_is); (case iC => k_is); (case sC => first | rfl | k_is)
    case A0 =>
      refine' K1.atC_mk ?n ?l ?c ?k
      (case n => k_is); (case l => k_is); (case c => k_is); (case k => k_is)
    case A1 =>
      refine' K1.at_mk ?n ?l ?c ?k
      (case n => k_is); (case l => k_is); (case c => k_is); (case k => k_is)
    case A2 =>
      refine' K1.at_mk ?n ?l ?c ?k
      (case n => k_is); (case l => k_is); (case c => k_is); (case k => k_is)
    case A3 =>
      refine' K1.atC_mk ?n ?l ?c ?k
      (case n => k_is); (case l => k_is); (case c => k_is); (case k => k_is)
    case A4 =>
      refine' K1.atC_mk ?n ?l ?c ?k
      (case n => k_is); (case l => k_is); (case c => k_is); (case k => k_is)
    case A5 =>
      refine' K1.at_mk ?n ?l ?c ?k
      (case n => k_is); (case l => k_is); (case c => k_is); (case k => k_is)
    case A6 =>
      refine' K1.at_mk ?n ?l ?c ?k
      (case n => k_is); (case l => k_is); (case c => k_is); (case k => k_is)
    case A7 =>
      refine' K1.at_mk ?n ?l ?c ?k
      (case n => k_is); (case l => k_is); (case c => k_is); (case k => k_is)
    case A8 =>
      refine' K1.at_mk ?n ?l ?c ?k
      (case n => k_is); (case l => k_is); (case c => k_is); (case k => k_is)
    case A9 =>
      refine' K1.at_mk ?n ?l ?c ?k
      (case n => k_is); (case l => k_is); (case c => k_is); (case k => k_is)
    case A10 =>
      refine' K1.at_mk ?n ?l ?c ?k
      (case n => k_is); (case l => k_is); (case c => k_is); (case k => k_is)
    case A11 =>
      refine' K1.at_mk ?n ?l ?c ?k
      (case n => k_is); (case l => k_is); (case c => k_is); (case k => k_is)
    case A12 =>
      refine' K1.atC_mk ?n ?l ?c ?k
      (case n => k_is); (case l => k_is); (case c => k_is); (case k => k_is)
    case A13 =>
      refine' K1.at_mk ?n ?l ?c ?k
      (case n => k_is); (case l => k_is); (case c => k_is); (case k => k_is)
    case tc =>
      refine' PySem.W.tab_of (x := "check_text") T KX rfl (K1.tab_in ?qac ?qlc ?qhc ?qtc ?qec)
      (case qac => k_is); (case qlc => k_is); (case qhc => rfl); (case qtc => k_is); (case qec => rfl)
    case ti =>
      refine' PySem.W.tab_of (x := "is_name") T KX rfl (K1.tab_in ?qai ?qli ?qhi ?qti ?qei)
      (case qai => k_is); (case qli => k_is); (case qhi => rfl); (case qti => k_is); (case qei => rfl)
    case ts =>
      refine' PySem.W.tab_of (x := "shortest") T KX rfl (K1.tab_in ?qas ?qls ?qhs ?qts ?qes)
      (case qas => k_is); (case qls => k_is); (case qhs => rfl); (case qts => k_is); (case qes => rfl)
    case tp =>
      refine' PySem.W.tab_of (x := "_law_plain") T KX rfl (K1.tab_in ?qap ?qlp ?qhp ?qtp ?qep)
      (case qap => k_is); (case qlp => k_is); (case qhp => rfl); (case qtp => k_is); (case qep => rfl)
    (case nc => kernel_rfl)
    (case ni => kernel_rfl)
    (case ns => kernel_rfl)
    (case np => kernel_rfl)
    (case ec => decide)
    (case ei => decide)
    (case es => decide)
end Text_K2g
