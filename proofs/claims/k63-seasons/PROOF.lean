import PyProof.Rows.All
import Wide.All
import OpenK.AllK
import Wide.FinOn
import HandS.ForMost
import HandS.AnyAll
import HandS.GenList
import HandS.Deep
import HandS.TupAny
import HandS.Flow
import HandS.IsInst
import HandS.SortInts
import HandS.Gcd
import HandS.Zip
import HandS.Rev
import KE.SortData
import HandS.Defaults
import HandS.Style
import HandS.HeadWalk
import HandS.Head0
import HandS.Head1
import HandS.Head2
import HandS.Head3
import HandS.HeadEnd
import HandS.HeadHook4
import HandS.NestedK
import PySem.Challenge.RW_slopeward_k63_whole_seasons_that_meet
set_option Elab.async false
set_option linter.all false
set_option maxRecDepth 100000
set_option maxHeartbeats 1000000
/-! PG1: generator expressions, the frame and its context. -/
namespace PF
open PySem PySem.Spec PyProof.Rows L2 GenW

theorem over_gx {A : Around} {elt : Expr} {gs : List Comprehension} {scope : Scope} {pos : Pos} {it acc : Value} {env : Env} : A.over (.compLoop (.GeneratorExp elt gs scope pos) 0 it acc env) [] = A.deeper env := by
  first
    | rfl
    | (obtain ⟨hd, d, fr, gs, u⟩ := A; simp [Around.over, Around.deeper, marksOver, frameCount, unitsOf, envsOf, guardsOf, pushEnvs, pushGuards, Code.envs, Code.env?, Code.isFrame, Code.guards, Code.isGuard, Code.weight, Code.frames, Code.isCreation, Code.isCaller, Code.cUnits])
theorem over_gx0 {A : Around} {elt : Expr} {gs : List Comprehension} {scope : Scope} {pos : Pos} {it acc : Value} {env : Env} : A.over (.compStart (.GeneratorExp elt gs scope pos) 0 it acc env) [] = A.deeper env := by
  first
    | rfl
    | (obtain ⟨hd, d, fr, gs, u⟩ := A; simp [Around.over, Around.deeper, marksOver, frameCount, unitsOf, envsOf, guardsOf, pushEnvs, pushGuards, Code.envs, Code.env?, Code.isFrame, Code.guards, Code.isGuard, Code.weight, Code.frames, Code.isCreation, Code.isCaller, Code.cUnits])

/-- the context of a generator expression's frame -/
abbrev gex (X : Cx) (A' : Around) (s : Shared) (H : Hp) (cenv : Env) (fp : List Addr) : Cx :=
  { X with A := A', s_0 := s, H_0 := H, env := cenv, outer := X.stack, stack := cenv :: X.stack, ex := fp, fn := fun _ => false, pn := [], xe := fun _ _ => False }

theorem cloFrom_free {cells : List (Str × Addr)} {names : List (Str × NameKind)} (hf : ∀ y ∈ names, y.2 = .free → ∃ c, cells.lookup y.1 = some c) {y : Str} {c : Addr} (h : (cloFrom cells names []).lookup y = some c) :
    (y, NameKind.free) ∈ names ∧ cells.lookup y = some c := by
  rcases cloFrom_mem (PySem.mem_of_lookup h) with hm | ⟨h1, h2⟩
  · cases hm
  · obtain ⟨c', hc⟩ := hf _ h1 rfl
    rw [hc] at h2
    have : c = c' := h2
    rw [this]
    exact ⟨h1, hc⟩
section
variable {X : Cx} {pins : List (Addr × Obj)} {σ : L2.St} {H : Hp} {s : Shared}
theorem gen_start {scope : Scope} {own : List (Str × Nat)} {fp : List Addr} {A' : Around} {code : Value} {itv : Value} {s5 : Shared} {Ia : Addr} {go : Obj} (I : Inv X pins σ H s) (ok : BlkOk X.N X.env.scope scope own) (hcell : ∀ y ∈ scope.names, y.2 ≠ .cell) (hN : X.N.Nodup)
    (hfp : ∀ b ∈ fp, FpOk X pins H b ∧ b < s.heap.objs.size) (hh : X.calm = true → A'.handled = none)
    (hfr : A'.frames = some (genEnv scope (cloFrom X.env.cells scope.names []) s.heap.objs.size code builtinsNs X.env :: X.stack))
    (kp : ∀ b o, s.heap.get? b = some o → s5.heap.get? b = some o) (os : s5.os = s.os) (hb : AllBare s5.gens) (hn : s5.heap.Ns s.heap.objs.size (fun y => if y = ".0" then some itv else none))
    (hIa : s.heap.objs.size < Ia) (hgo : s5.heap.get? Ia = some go) (hgc : ∀ v, go.data ≠ .cell v) :
    Inv (gex X A' s H (genEnv scope (cloFrom X.env.cells scope.names []) s.heap.objs.size code builtinsNs X.env) fp) [(Ia, go)] (wipe σ (own.map (·.2))) H s5 := by
  have hfree : ∀ y ∈ scope.names, y.2 = .free → ∃ c, X.env.cells.lookup y.1 = some c := fun y hy e => by
    rcases ok.free y hy e with k | k
    · exact I.ok.has _ (.inl k)
    · exact I.ok.has _ (.inr k)
  generalize hcenv : genEnv scope (cloFrom X.env.cells scope.names []) s.heap.objs.size code builtinsNs X.env = cenv at hfr
  have hL : cenv.locals = s.heap.objs.size := by rw [← hcenv]; rfl
  have hcl : cenv.cells = cloFrom X.env.cells scope.names [] := by rw [← hcenv]; rfl
  have hsc : cenv.scope = scope := by rw [← hcenv]; rfl
  have mem : ∀ {y c}, cenv.cells.lookup y = some c → X.env.cells.lookup y = some c ∧ c < s.heap.objs.size := fun {y c} e => by
    rw [hcl] at e
    obtain ⟨_, h2⟩ := cloFrom_free hfree e
    obtain ⟨w, z⟩ := I.cell _ _ h2
    exact ⟨h2, z.lt⟩
  have look : ∀ {y}, scope.names.lookup y = some .free → ∃ c, cenv.cells.lookup y = some c ∧ X.env.cells.lookup y = some c := fun {y} hl => by
    have hy : (y, NameKind.free) ∈ scope.names := PySem.mem_of_lookup hl
    obtain ⟨c', e'⟩ := mem_lookup (cloFrom_has (cells := X.env.cells) (acc := []) hy)
    refine ⟨c', by rw [hcl]; exact e', ?_⟩
    exact (cloFrom_free hfree e').2
  have nocell : ∀ {y k}, cenv.kindOf y = some k → (k = .cell ∨ k = .free) → k = .free := fun {y k} hk hk' => by
    rcases hk' with rfl | rfl
    · unfold Env.kindOf at hk
      rw [hsc] at hk
      exact absurd rfl (hcell _ (PySem.mem_of_lookup hk))
    · rfl
  have okB : (gex X A' s H cenv fp).Ok := by
    refine ⟨I.ok.mod, by show cenv.scope.kind = _; rw [hsc]; exact ok.kind, by show cenv.globals = _; rw [← hcenv]; exact I.ok.glob, by show cenv.builtins = _; rw [← hcenv]; rfl, by show s.heap.objs.size ≤ cenv.locals; rw [hL]; exact Nat.le_refl _,
      fun y z c e1 e2 => ?_, fun y hy => ?_, fun y c z e => ?_, hh, hfr, .inr ⟨rfl, by show cenv.frame = some cenv.locals; rw [← hcenv]; rfl⟩, fun b hb => ⟨?_, fun y c e z => ?_⟩, I.bs, Nat.le_trans I.ok.bsz I.sz, fun b o e hb => ?_, fun b hb z => ?_, I.stack, I.stkFree⟩
    · exact I.ok.inj y z c (mem e1).1 (mem e2).1
    · show ∃ c, cenv.cells.lookup y = some c
      have key : ∀ k, cenv.kindOf y = some k → (k = .cell ∨ k = .free) → ∃ c, cenv.cells.lookup y = some c := fun k hk hk' => by
        have e := nocell hk hk'
        subst e
        unfold Env.kindOf at hk
        rw [hsc] at hk
        obtain ⟨c, h1, _⟩ := look hk
        exact ⟨c, h1⟩
      rcases hy with hy | hy
      · exact key _ hy (.inl rfl)
      · exact key _ hy (.inr rfl)
    · cases z
    · show b ≠ cenv.locals
      rw [hL]; exact Nat.ne_of_lt (hfp b hb).2
    · exact (hfp b hb).1.2.2.2.2.1 y c (mem e).1 z
    · rcases (hfp b hb).1.2.2.2.1 with z | z
      · exact I.ok.noex b o e z
      · exact absurd (Nat.lt_of_lt_of_le (Heap.lt_size e) (Nat.le_trans I.ok.bsz z)) (Nat.lt_irrefl _)
    · rcases List.mem_cons.mp (I.stkSub b z) with z | z
      · exact (hfp b hb).1.2.1 z
      · exact (hfp b hb).1.2.2.1 z
  refine ⟨okB, os, hb, Un.kept kp, ⟨_, by show Heap.Ns _ cenv.locals _; rw [hL]; exact hn, fun i y av e1 e2 e3 => ?_⟩, fun y c e => ?_, ?_, fun y c e => ?_, fun p hp => ?_, I.hok.kept kp, by rw [wipe_length]; exact I.len⟩
  · obtain ⟨e2, hne⟩ := wipe_some e2
    have hfr : scope.names.lookup y = some .free := by
      have no : ∀ k, scope.names.lookup y = some k → ¬ (k = .local ∨ k = .cell) := fun k e hk => by
        rcases ok.own _ (PySem.mem_of_lookup e) hk with e' | e'
        · obtain ⟨p, hp, hpy⟩ := List.mem_map.mp e'
          have e3 := ok.ix p hp
          have : p.1 = y := hpy
          rw [this] at e3
          exact hne (List.mem_map.mpr ⟨p, hp, nodup_ix hN e3 e1⟩)
        · exact e' (List.mem_of_getElem? e1)
      have e3 : Vis cenv.scope y := e3
      rw [hsc] at e3
      rcases e3 with e3 | e3 | e3
      · exact absurd (.inl rfl) (no _ e3)
      · exact absurd (.inr rfl) (no _ e3)
      · exact e3
    obtain ⟨m, hn, hl⟩ := I.loc
    have hvis : Vis X.env.scope y := (ok.free _ (PySem.mem_of_lookup hfr) rfl).elim (fun k => .inr (.inl k)) (fun k => .inr (.inr k))
    obtain ⟨w, r, q⟩ := hl i y av e1 e2 hvis
    refine ⟨w, r, .inr ⟨.inr (by show cenv.scope.names.lookup y = _; rw [hsc]; exact hfr), ?_⟩⟩
    obtain ⟨c, h1, h2⟩ := look hfr
    rcases q with ⟨k, _⟩ | ⟨_, c', e', z⟩
    · have k : X.env.scope.names.lookup y = some .local := k
      rcases ok.free _ (PySem.mem_of_lookup hfr) rfl with k' | k' <;> rw [show X.env.scope.names.lookup y = _ from k'] at k <;> cases k
    · rw [h2] at e'; cases e'
      exact ⟨c, h1, z.keeps kp⟩
  · have e : cenv.cells.lookup y = some c := e
    obtain ⟨w, z⟩ := I.cell y c (mem e).1
    exact ⟨w, z.keeps kp⟩
  · show H cenv.locals = none
    rw [hL]; exact I.hok.fresh (Nat.le_refl _)
  · have e : cenv.cells.lookup y = some c := e
    exact I.freeC y c (mem e).1
  · have e : p = (Ia, go) := by simpa using hp
    subst e
    refine ⟨hgo, I.hok.fresh (Nat.le_of_lt hIa), ?_, ?_, hgc⟩
    · show Ia ≠ cenv.locals
      rw [hL]; exact Nat.ne_of_gt hIa
    · intro z
      rcases List.mem_cons.mp (I.stkSub Ia z) with z | z
      · have := I.lt
        rw [← z] at this
        exact absurd (Nat.lt_trans this hIa) (Nat.lt_irrefl _)
      · exact I.nofs (Nat.le_of_lt hIa) z
end
end PF

set_option Elab.async false
set_option linter.all false
set_option maxRecDepth 100000
set_option maxHeartbeats 1000000
/-! PG2: generator expressions, the walk of the frame. -/
namespace PF
open PySem PySem.Spec PyProof.Rows L2 GenW

theorem Inv.like {X : Cx} {pins : List (Addr × Obj)} {σ : L2.St} {H : Hp} {s s' : Shared} (I : Inv X pins σ H s) (hh : s'.heap = s.heap) (ho : s'.os = s.os) (hb : AllBare s'.gens) : Inv X pins σ H s' :=
  ⟨I.ok, ho.trans I.os, hb, by rw [hh]; exact I.base, by rw [hh]; exact I.loc, by rw [hh]; exact I.cell, I.free, I.freeC, by rw [hh]; exact I.pin, by rw [hh]; exact I.hok, I.len⟩
/-- the frame's end: all has been handed out -/
def GEndR (X : Cx) (p : Addr × Obj) (z : Bool) (Q : Bool → Hp → Prop) : GenEnd := fun _ _ r s₁ => r = .ok .next ∧ ∃ σ' H', Inv X [p] σ' H' s₁ ∧ Q (!z) H'
/-- a sign is handed out; z: none is asked for after it -/
def GProt (X : Cx) (p : Addr × Obj) (z : Bool) (Q : Bool → Hp → Prop) : Protocol := fun _ _ v s kap =>
  ∃ σ' H' c, v = .bool c ∧ Inv X [p] σ' H' s ∧ (c = z → Q z H') ∧ (c ≠ z → ∀ s', s'.heap = s.heap → s'.os = s.os → AllBare s'.gens → kap (.send .none) s')
/-- the turns: W by the turn and a measure -/
def GTurns (J : It) (g : TG) (tt : TT) (te : TE) (vs : List Nat) (σ : L2.St) (z : Bool) (Q : Bool → Hp → Prop) (W : Nat → Nat → Hp → Prop) : Prop := ∀ i m H, W i m H →
  (J.stop i H ∧ Q (!z) H) ∨ (J.go i H ∧ ∃ Nx : Hp → Prop, (∀ H', Nx H' → ∃ m', m' < m ∧ W (i + 1) m' H') ∧ ∀ x H', J.yld i H x H' → g x (wipe σ vs) H' fun σ2 H2 => wipe σ2 vs = wipe σ vs ∧ tt σ2 H2 fun b H3 =>
    if b = true then te σ2 H3 fun y H4 => ∃ c, y = .bl c ∧ (c = z → Q z H4) ∧ (c ≠ z → Nx H4) else Nx H3)
section
variable {X : Cx} {A : Around} {elt tg iter : Expr} {ifs : List Expr} {scope : Scope} {pos : Pos} {it : Addr} {p : Addr × Obj} {z : Bool} {Q : Bool → Hp → Prop} {J : It} {fp : List Addr} {tn : Nat → Heap → Prop} {g : TG} {tt : TT} {te : TE} {vs : List Nat} {σ : L2.St} {W : Nat → Nat → Hp → Prop}
theorem compTurn_gen1 (env : Env) (acc : Value) :
    compTurn (.GeneratorExp elt [⟨tg, iter, ifs, 0⟩] scope pos) 0 (.ref it) acc env = (do
      standAt iter.pos
      match ← pyNext (.ref it) with
      | none => pure (.done .next)
      | some v =>
        letOwnedTupleGo tg (.ref it) v
        assign tg env v
        let mut ok := true
        for c in ifs do
          if ok then ok ← isTrue c env (eval c env)
        if ok then
          (do let v ← eval elt env; standAt elt.pos; let _ ← yieldOut env v)
        again (.compLoop (.GeneratorExp elt [⟨tg, iter, ifs, 0⟩] scope pos) 0 (.ref it) acc env)) := by rfl

theorem seg_gloop (hxe : X.xe = fun _ _ => False) (hpn : X.pn = []) (hc : X.calm = true) (hA : A.deeper X.env = X.A) (hco : X.env.scope.isCoroutine = false) (T : Turn X.prog X.w X.K tg J fp it tn) (pg : PG X tg g) (pt : PTs X ifs tt) (pe : PE X elt te)
    (hex : ∀ b ∈ fp, b ∈ X.ex ∧ p.1 ≠ b) (turn : GTurns J g tt te vs σ z Q W) :
    ∀ (m n i : Nat) (s₀ s : Shared) (H' : Hp), m < n → Inv X [p] (wipe σ vs) H' s → tn i s.heap → (∀ b ∈ fp, H' b = none) → W i m H' →
      Seg (model X.prog X.w) A (GEndR X p z Q) (GProt X p z Q) n s₀ (.compLoop (.GeneratorExp elt [⟨tg, iter, ifs, 0⟩] scope pos) 0 (.ref it) .none X.env)
        ((model X.prog X.w).den (.compLoop (.GeneratorExp elt [⟨tg, iter, ifs, 0⟩] scope pos) 0 (.ref it) .none X.env)) [] s := by
  have stat : ∀ {σ' : L2.St} {H' : Hp} {s' : Shared}, Inv X [p] σ' H' s' → (∀ b ∈ fp, H' b = none) → ∀ b ∈ fp, FpOk X [p] H' b := fun {σ' H' s'} I' hn b hb =>
    ⟨hn b hb, (I'.ok.exf b (hex b hb).1).1, I'.ok.exfs b (hex b hb).1, .inl (hex b hb).1, fun x c e => (I'.ok.exf b (hex b hb).1).2 x c e, fun q hq => by
      rw [hpn] at hq
      have e : q = p := by simpa using hq
      rw [e]; exact (hex b hb).2⟩
  have xf : ∀ {α : Type} {t : Sem α} {Q' Q'' : α → Shared → Prop} {E : Value → Shared → Prop} {s : Shared}, wpAny (model X.prog X.w) X.A t Q' X.xe s → (∀ a s, Q' a s → Q'' a s) → wpAny (model X.prog X.w) X.A t Q'' E s := fun h k => by
    rw [hxe] at h
    exact thnF h k
  intro m
  induction m using Nat.strongRecOn with
  | ind m ih =>
    intro n i s₀ s5 H5 hmn I5 st5 n5 w5
    show Seg _ A _ _ _ s₀ _ ((compTurn (.GeneratorExp elt [⟨tg, iter, ifs, 0⟩] scope pos) 0 (.ref it) .none X.env).onRaise (leaving X.env)) [] s5
    rw [compTurn_gen1, Sem.onRaise_eq_wrap]
    refine seg_bind_wrap (wpAny_standAt ?_)
    rcases turn i m H5 w5 with ⟨stop, qq⟩ | ⟨go, Nx, hNx, step⟩
    · refine seg_bind_wrap ?_
      rw [over_gx, hA]
      refine thnF (T.done X rfl rfl rfl hc i [p] s5 _ H5 (fun _ _ => False) I5 (stat I5 n5) st5 stop) fun r s6 ⟨hr, I6⟩ => ?_
      subst hr
      exact seg_end (.ok .next) ⟨rfl, _, H5, I6, qq⟩
    · refine seg_bind_wrap ?_
      rw [over_gx, hA]
      refine thnF (T.item X rfl rfl rfl hc i [p] s5 _ H5 (fun _ _ => False) I5 (stat I5 n5) st5 go) fun r s6 ⟨u, hr, h6⟩ => ?_
      subst hr
      refine seg_bind_wrap ?_
      rw [over_gx, hA]
      refine thnF h6 fun _ s7 ⟨x, H7, I7, r7, y7, st7, n7⟩ => ?_
      have I7' := I7.pinned (stat I7 n7) (T.obj _ _ st7)
      refine seg_bind_wrap ?_
      rw [over_gx, hA]
      refine xf (pg.run _ s7 _ H7 x u _ I7' r7 (step x H7 y7)) fun _ s8 ⟨σ8, H8, I8, hw8, q8⟩ => ?_
      refine seg_bind_wrap ?_
      rw [over_gx, hA]
      refine xf (pt.run _ s8 σ8 H8 _ I8 q8) fun b s9 ⟨H9, I9, q9⟩ => ?_
      have fin : ∀ {s' : Shared} {H' : Hp}, Inv X ([p] ++ pinsAt fp s7.heap) σ8 H' s' → Nx H' → ∃ m', m' < m ∧ Inv X [p] (wipe σ vs) H' s' ∧ tn (i + 1) s'.heap ∧ (∀ b ∈ fp, H' b = none) ∧ W (i + 1) m' H' := fun {s' H'} I' nx => by
        obtain ⟨m', hm, w'⟩ := hNx H' nx
        have pin' : ∀ b ∈ fp, ∀ o, s7.heap.get? b = some o → s'.heap.get? b = some o ∧ H' b = none := fun b hb o e =>
          let z := I'.pin (b, o) (List.mem_append_right _ (List.mem_append_right _ (mem_pinsAt hb e)))
          ⟨z.1, z.2.1⟩
        have hl : (wipe σ vs).length = σ8.length := by rw [← hw8, wipe_length]
        refine ⟨m', hm, (I'.unpinned (pins := [p])).weak hl (fun j v e => ?_), T.keep _ _ _ st7 fun b hb o e => (pin' b hb o e).1, fun b hb => ?_, w'⟩
        · rw [← hw8] at e
          exact (wipe_some e).1
        · obtain ⟨o, e, _⟩ := T.obj _ _ st7 b hb
          exact (pin' b hb o e).2
      cases b with
      | false =>
        simp only [Bool.false_eq_true, if_false] at q9 ⊢
        obtain ⟨m', hm, I', st', n', w'⟩ := fin I9 q9
        exact seg_again rfl (ih m' hm n (i + 1) s₀ _ H9 (Nat.lt_trans hm hmn) I' st' n' w')
      | true =>
        simp only [if_true] at q9 ⊢
        have hy : ∀ v, yieldOut X.env v = yieldValue v := fun v => by simp only [yieldOut, hco, Bool.false_eq_true, if_false]
        simp only [hy]
        rw [Sem.bind_eq_wrap', Sem.bind_eq_wrap', Sem.wrap_wrap, Sem.wrap_wrap]
        refine seg_wrap ?_
        rw [over_gx, hA]
        refine xf (pe.run _ s9 σ8 H9 _ I9 q9) fun y s10 ⟨yv, H10, I10, r10, c, ec, hz, nz⟩ => ?_
        subst ec
        obtain rfl : y = Value.bool c := r10
        obtain ⟨n, rfl⟩ : ∃ k, n = k + 1 := ⟨n - 1, by omega⟩
        refine seg_at (seg_yield rfl rfl rfl ⟨σ8, H10, c, rfl, I10.unpinned (pins := [p]), hz, fun hne s'' hh ho hb => ?_⟩)
        obtain ⟨m', hm, I', st', n', w'⟩ := fin I10 (nz hne)
        exact seg_again rfl (ih m' hm n (i + 1) s'' s'' H10 (by omega) (Inv.like I' hh ho hb) (by rw [hh]; exact st') n' w')
theorem seg_gstart (hxe : X.xe = fun _ _ => False) (hpn : X.pn = []) (hc : X.calm = true) (hA : A.deeper X.env = X.A) (hco : X.env.scope.isCoroutine = false) (T : Turn X.prog X.w X.K tg J fp it tn) (pg : PG X tg g) (pt : PTs X ifs tt) (pe : PE X elt te)
    (hex : ∀ b ∈ fp, b ∈ X.ex ∧ p.1 ≠ b) (turn : GTurns J g tt te vs σ z Q W) {m n : Nat} {s₀ s : Shared} {H' : Hp} (hmn : m < n) (I : Inv X [p] (wipe σ vs) H' s) (st : tn 0 s.heap) (hn : ∀ b ∈ fp, H' b = none) (w : W 0 m H') :
      Seg (model X.prog X.w) A (GEndR X p z Q) (GProt X p z Q) n s₀ (.compStart (.GeneratorExp elt [⟨tg, iter, ifs, 0⟩] scope pos) 0 (.ref it) .none X.env)
        ((model X.prog X.w).den (.compStart (.GeneratorExp elt [⟨tg, iter, ifs, 0⟩] scope pos) 0 (.ref it) .none X.env)) [] s := by
  have loop := seg_gloop (elt := elt) (iter := iter) (scope := scope) (pos := pos) hxe hpn hc hA hco T pg pt pe hex turn m n 0 s₀ s H' hmn I st hn w
  show Seg _ A _ _ _ s₀ _ ((compStart (.GeneratorExp elt [⟨tg, iter, ifs, 0⟩] scope pos) 0 (.ref it) .none X.env).onRaise (leaving X.env)) [] s
  unfold compStart
  rw [Sem.onRaise_eq_wrap]
  show Seg _ A _ _ _ s₀ _ ((ask >>= _).wrap _ _ _ _) [] s
  refine seg_bind_wrap (wpAny_askSetting ?_)
  split
  · exact seg_again rfl loop
  · first
      | exact seg_bind_wrap (wpAny_rule (seg_bind_wrap (wpAny_standAt (seg_bind_wrap (T.self _ 0 s _ _ st (seg_again rfl loop))))))
      | (refine seg_bind_wrap (wpAny_rule ?_); show Seg _ A _ _ _ s₀ _ ((standAt iter.pos >>= _).wrap _ _ _ _) [] s; exact seg_bind_wrap (wpAny_standAt (seg_bind_wrap (T.self _ 0 s _ _ st (seg_again rfl loop)))))
end
end PF

set_option Elab.async false
set_option linter.all false
set_option maxRecDepth 100000
set_option maxHeartbeats 1000000
/-! PG3: any, all of a generator expression. -/
namespace PF
open PySem PySem.Spec PyProof.Rows L2 GenW GxR

/-- what is known at a loop's end -/
def GDone (X : Cx) (p : Addr × Obj) (Q : Bool → Hp → Prop) (b : Bool) (s' : Shared) : Prop :=
  ∃ σ' H' s1, Inv X [p] σ' H' s1 ∧ Q b H' ∧ (∀ c o, s1.heap.get? c = some o → s'.heap.get? c = some o) ∧ s'.os = s1.os ∧ AllBare s'.gens
section
variable {X : Cx} {p : Addr × Obj} {Q : Bool → Hp → Prop} {A : Around} {R : Result → Shared → Prop} {g : Nat}
theorem gloop_any (hh : A.handled = none) (hd : A.depth < recursionLimit) (hgen : ∀ h : Heap, h.get? p.1 = some p.2 → h.IsGen p.1 g)
    (hend : ∀ b s', GDone X p Q b s' → R (.ok (.ret (.bool b))) s') :
    ∀ (n : Nat) (s : Shared), s.heap.IsGen p.1 g → s.heap.NoLimit → (∃ gs, s.gens[g]? = some gs ∧ gs.Goes (model X.prog X.w) A.in1.in1 (GEndR X p true Q) (GProt X p true Q) n (.send .none) (s.setGen g .running)) →
      codeAny (model X.prog X.w) A (.builtin "any.loop" ⟨[.ref p.1], []⟩) R s := by
  intro n
  induction n with
  | zero =>
    intro s hg hl ⟨gs, hgs, hgo⟩
    refine codeAny_builtin F.entry_any_loop ?_
    rw [Around.under_plainId F.plain_any_loop _]
    show wpAny _ A.in1 (pyNext (.ref p.1) >>= _) _ _ s
    refine wpAny_bind (wpAny_pyNext_genexpQ (P := fun _ _ s₁ => ∃ σ' H', Inv X [p] σ' H' s₁ ∧ Q (!true) H') hh hl hd hg hgs hgo (fun v s₁ gs' hb hv => ?_) (fun s₁ hp h' hk => ?_))
    · obtain ⟨σ', H', c, rfl, I, hz, nz⟩ := hv
      refine wpAny_bind (wpAny_holding (wpAny_truthy_bool ?_))
      refine wpAny_bind (wpAny_letGo ?_)
      cases c with
      | false => exact False.elim (nz (by decide) _ rfl rfl I.bare)
      | true =>
        simp only [if_true]
        exact wpAny_bind (wpAny_rule (wpAny_pure (hend true _ ⟨σ', H', s₁, I, hz rfl, fun _ _ e => e, rfl, allBare_setGen I.bare hb⟩)))
    · obtain ⟨σ', H', I, q⟩ := hp
      refine wpAny_bind (wpAny_rule (wpAny_pure ?_))
      exact hend false _ ⟨σ', H', s₁, I, q, hk, rfl, allBare_setGen I.bare rfl⟩
  | succ n ih =>
    intro s hg hl ⟨gs, hgs, hgo⟩
    have hgl : g < s.gens.size := (Array.getElem?_eq_some_iff.mp hgs).1
    refine codeAny_builtin F.entry_any_loop ?_
    rw [Around.under_plainId F.plain_any_loop _]
    show wpAny _ A.in1 (pyNext (.ref p.1) >>= _) _ _ s
    refine wpAny_bind (wpAny_gsz (n := g + 1) hgl (wpAny_pyNext_genexpQ (P := fun _ _ s₁ => ∃ σ' H', Inv X [p] σ' H' s₁ ∧ Q (!true) H') hh hl hd hg hgs hgo (fun v s₁ gs' hb hv => ?_) (fun s₁ hp h' hk => ?_)))
    · intro hsz
      obtain ⟨σ', H', c, rfl, I, hz, nz⟩ := hv
      refine wpAny_bind (wpAny_holding (wpAny_truthy_bool ?_))
      refine wpAny_bind (wpAny_letGo ?_)
      cases c with
      | false =>
        simp only [Bool.false_eq_true, if_false]
        have hsz1 : g < s₁.gens.size := by
          have q : (s₁.setGen g gs').gens.size = s₁.gens.size := setGen_size _ _ _
          have hsz' : g + 1 ≤ (s₁.setGen g gs').gens.size := hsz
          omega
        refine wpAny_pure ⟨plainId_quiet F.plain_any_loop _, ih _ (hgen _ (I.pin p (List.mem_append_right _ (List.mem_singleton.mpr rfl))).1) I.nolimit ⟨gs', setGen_at hsz1, ?_⟩⟩
        exact nz (by decide) _ rfl rfl (allBare_setGen (s := s₁.setGen g gs') (allBare_setGen I.bare hb) rfl)
      | true =>
        simp only [if_true]
        exact wpAny_bind (wpAny_rule (wpAny_pure (hend true _ ⟨σ', H', s₁, I, hz rfl, fun _ _ e => e, rfl, allBare_setGen I.bare hb⟩)))
    · intro hsz
      obtain ⟨σ', H', I, q⟩ := hp
      refine wpAny_bind (wpAny_rule (wpAny_pure ?_))
      exact hend false _ ⟨σ', H', s₁, I, q, hk, rfl, allBare_setGen I.bare rfl⟩
theorem gloop_all (hh : A.handled = none) (hd : A.depth < recursionLimit) (hgen : ∀ h : Heap, h.get? p.1 = some p.2 → h.IsGen p.1 g)
    (hend : ∀ b s', GDone X p Q b s' → R (.ok (.ret (.bool b))) s') :
    ∀ (n : Nat) (s : Shared), s.heap.IsGen p.1 g → s.heap.NoLimit → (∃ gs, s.gens[g]? = some gs ∧ gs.Goes (model X.prog X.w) A.in1.in1 (GEndR X p false Q) (GProt X p false Q) n (.send .none) (s.setGen g .running)) →
      codeAny (model X.prog X.w) A (.builtin "all.loop" ⟨[.ref p.1], []⟩) R s := by
  intro n
  induction n with
  | zero =>
    intro s hg hl ⟨gs, hgs, hgo⟩
    refine codeAny_builtin F.entry_all_loop ?_
    rw [Around.under_plainId F.plain_all_loop _]
    show wpAny _ A.in1 (pyNext (.ref p.1) >>= _) _ _ s
    refine wpAny_bind (wpAny_pyNext_genexpQ (P := fun _ _ s₁ => ∃ σ' H', Inv X [p] σ' H' s₁ ∧ Q (!false) H') hh hl hd hg hgs hgo (fun v s₁ gs' hb hv => ?_) (fun s₁ hp h' hk => ?_))
    · obtain ⟨σ', H', c, rfl, I, hz, nz⟩ := hv
      refine wpAny_bind (wpAny_holding (wpAny_truthy_bool ?_))
      refine wpAny_bind (wpAny_letGo ?_)
      cases c with
      | true => exact False.elim (nz (by decide) _ rfl rfl I.bare)
      | false =>
        simp only [Bool.false_eq_true, if_false]
        exact wpAny_bind (wpAny_rule (wpAny_pure (hend false _ ⟨σ', H', s₁, I, hz rfl, fun _ _ e => e, rfl, allBare_setGen I.bare hb⟩)))
    · obtain ⟨σ', H', I, q⟩ := hp
      refine wpAny_bind (wpAny_rule (wpAny_pure ?_))
      exact hend true _ ⟨σ', H', s₁, I, q, hk, rfl, allBare_setGen I.bare rfl⟩
  | succ n ih =>
    intro s hg hl ⟨gs, hgs, hgo⟩
    have hgl : g < s.gens.size := (Array.getElem?_eq_some_iff.mp hgs).1
    refine codeAny_builtin F.entry_all_loop ?_
    rw [Around.under_plainId F.plain_all_loop _]
    show wpAny _ A.in1 (pyNext (.ref p.1) >>= _) _ _ s
    refine wpAny_bind (wpAny_gsz (n := g + 1) hgl (wpAny_pyNext_genexpQ (P := fun _ _ s₁ => ∃ σ' H', Inv X [p] σ' H' s₁ ∧ Q (!false) H') hh hl hd hg hgs hgo (fun v s₁ gs' hb hv => ?_) (fun s₁ hp h' hk => ?_)))
    · intro hsz
      obtain ⟨σ', H', c, rfl, I, hz, nz⟩ := hv
      refine wpAny_bind (wpAny_holding (wpAny_truthy_bool ?_))
      refine wpAny_bind (wpAny_letGo ?_)
      cases c with
      | true =>
        simp only [if_true]
        have hsz1 : g < s₁.gens.size := by
          have q : (s₁.setGen g gs').gens.size = s₁.gens.size := setGen_size _ _ _
          have hsz' : g + 1 ≤ (s₁.setGen g gs').gens.size := hsz
          omega
        refine wpAny_pure ⟨plainId_quiet F.plain_all_loop _, ih _ (hgen _ (I.pin p (List.mem_append_right _ (List.mem_singleton.mpr rfl))).1) I.nolimit ⟨gs', setGen_at hsz1, ?_⟩⟩
        exact nz (by decide) _ rfl rfl (allBare_setGen (s := s₁.setGen g gs') (allBare_setGen I.bare hb) rfl)
      | false =>
        simp only [Bool.false_eq_true, if_false]
        exact wpAny_bind (wpAny_rule (wpAny_pure (hend false _ ⟨σ', H', s₁, I, hz rfl, fun _ _ e => e, rfl, allBare_setGen I.bare hb⟩)))
    · intro hsz
      obtain ⟨σ', H', I, q⟩ := hp
      refine wpAny_bind (wpAny_rule (wpAny_pure ?_))
      exact hend true _ ⟨σ', H', s₁, I, q, hk, rfl, allBare_setGen I.bare rfl⟩
end

/-- any, all (for target in iter if ..); P: the table of the running def's code -/
def tGx (P : Addr) (wi : TI) (g : TG) (tt : TT) (te : TE) (vs : List Nat) (z : Bool) : TE := fun σ H Q => wi σ H fun J H1 => ∃ ps : Array Value, H1 P = some (.tbl ps) ∧ TriplesOk ps.toList ∧ ∀ more : Array Value, TriplesOk (ps ++ more).toList →
  ∃ W : Nat → Nat → Hp → Prop, (∃ m, W 0 m (upd H1 P (.tbl (ps ++ more)))) ∧ GTurns J g tt te vs σ z (fun b H => Q (.bl b) H) W

/-- the generator, ready -/
def GReady (X : Cx) (pins : List (Addr × Obj)) (σ : L2.St) (k : Nat) (z : Bool) (Q : Bool → Hp → Prop) (u : Value) (s5 : Shared) : Prop :=
  ∃ (s4 : Shared) (H4 : Hp) (cenv : Env) (fp : List Addr) (p : Addr × Obj) (g : Nat) (c : Code), Inv X pins σ H4 s4 ∧ (∀ b ∈ fp, FpOk X pins H4 b) ∧ u = .ref p.1 ∧ (∀ h : Heap, h.get? p.1 = some p.2 → h.IsGen p.1 g) ∧
    s5.heap.get? p.1 = some p.2 ∧ s5.gens[g]? = some (.fresh c) ∧ s5.heap.NoLimit ∧ AllBare s5.gens ∧ s5.os = s4.os ∧
    ∀ (A0 : Around) (s' : Shared), (X.calm = true → A0.handled = none) → A0.frames = some X.stack → Room k (A0.deeper cenv) → s'.heap = s5.heap → s'.os = s5.os → AllBare s'.gens →
      ∃ n, Seg (model X.prog X.w) A0 (GEndR (gex X (A0.deeper cenv) s4 H4 cenv fp) p z Q) (GProt (gex X (A0.deeper cenv) s4 H4 cenv fp) p z Q) n s' c ((model X.prog X.w).den c) [] s'
section
variable {X : Cx} {pins : List (Addr × Obj)} {σ : L2.St} {H : Hp} {s : Shared} {k : Nat} {c P : Addr} {elt tg iter : Expr} {ifs : List Expr} {scope : Scope} {own : List (Str × Nat)} {gpos pos pp : Pos} {wi : TI} {g : TG} {tt : TT} {te : TE} {z : Bool}
theorem gx_make {Q : VK} (hr : Room (k + 1) X.A) (hc : X.calm = true) (hN : X.N.Nodup) (TB : TabB X.base X.mg c P) (hcode : X.env.code = .ref c) (hi : PI X tg iter wi) (ok : BlkOk X.N X.env.scope scope own) (hcell : ∀ y ∈ scope.names, y.2 ≠ .cell)
    (hdot : scope.names.lookup (".0" : Str) = some NameKind.local) (hco : scope.isCoroutine = false) (hs : ∀ v, genFold iter X.env v = pure v)
    (hg : ∀ (A' : Around) (s : Shared) (H : Hp) (C : Addr) (cl : List (Str × Addr)) (code : Value) (fp : List Addr), Room k A' → PG (gex X A' s H (genEnv scope cl C code builtinsNs X.env) fp) tg g)
    (ht : ∀ (A' : Around) (s : Shared) (H : Hp) (C : Addr) (cl : List (Str × Addr)) (code : Value) (fp : List Addr), Room k A' → PTs (gex X A' s H (genEnv scope cl C code builtinsNs X.env) fp) ifs tt)
    (he : ∀ (A' : Around) (s : Shared) (H : Hp) (C : Addr) (cl : List (Str × Addr)) (code : Value) (fp : List Addr), Room k A' → PE (gex X A' s H (genEnv scope cl C code builtinsNs X.env) fp) elt te)
    (I : Inv X pins σ H s) (h : tGx P wi g tt te (own.map (·.2)) z σ H Q) :
    wpAny (model X.prog X.w) X.A (eval (.GeneratorExp elt [⟨tg, iter, ifs, 0⟩] scope gpos) X.env) (GReady X pins σ k z fun b H => Q (.bl b) H) X.xe s := by
  have hfree : ∀ y ∈ scope.names, y.2 = .free → ∃ c, X.env.cells.lookup y.1 = some c := fun y hy e => by
    rcases ok.free y hy e with k | k
    · exact I.ok.has _ (.inl k)
    · exact I.ok.has _ (.inr k)
  refine wpAny_GeneratorExp_make hco (closure_ok hfree) hcell hdot ok.kind (by have := hr.dp; omega) ?_ hs
  refine thn (hi.run pins s σ H _ I h) fun xv s1 hx => thn hx fun itv s2 h2 => ?_
  obtain ⟨it, fp, tn, J, H2, e, I2, T, st2, f2, ps, hP, ht0, q⟩ := h2
  subst e
  refine ⟨I2.nolimit, ?_⟩
  have hPs : s2.heap.get? P = some { cls := .none, data := .fields ps } := I2.hok P _ hP
  have cd : PySem.W.CodeHd s2.heap c P := TB.code.keeps fun b u e => I2.bk b u e
  have sz : ∀ b ∈ fp, b < s2.heap.objs.size := fun b hb => by
    obtain ⟨o, e, _⟩ := T.obj _ _ st2 b hb
    exact Heap.lt_size e
  have fpP : ∀ b ∈ fp, b ≠ P := fun b hb e => by
    have := (f2 b hb).1
    rw [e, hP] at this
    cases this
  have cont : ∀ (code : Value) (h3 : Heap) (tk : Nat) (more : Array Value), Heap.ExtBut P s2.heap h3 → s2.heap.objs.size ≤ h3.objs.size → h3.get? P = some { cls := .none, data := .fields (ps ++ more) } → TriplesOk (ps ++ more).toList →
      wpAny (model X.prog X.w) X.A (builtinsFor X.env.globals X.env.builtins) (fun bi s₄ =>
        ∀ h', h'.Ns s₄.heap.objs.size (fun y => if y = ".0" then some (.ref it) else none) → Heap.SameBut s₄.heap.objs.size (s₄.heap.push { cls := .type "frame", data := .dict #[] }) h' →
          GReady X pins σ k z (fun b H => Q (.bl b) H) (.ref h'.objs.size) { s₄ with
            gens := s₄.gens.push (.fresh (.compStart (.GeneratorExp elt [⟨tg, iter, ifs, 0⟩] scope gpos) 0 (.ref it) .none (genEnv scope (cloFrom X.env.cells scope.names []) s₄.heap.objs.size code bi X.env))),
            toks := s₄.toks + 1 + 1 + 1,
            heap := h'.push { cls := .type "generator", data := .fields #[.int s₄.gens.size 0, .str "<genexpr>" (s₄.toks + 1), .str (X.env.qual ++ "<genexpr>") (s₄.toks + 1 + 1)] } }) X.xe { s2 with heap := h3, toks := tk } := by
    intro code h3 tk more hx hsz hP3 ht3
    obtain ⟨bm, ob, e1, e2, e3, e4, e5, e6, e7, e8⟩ := TB.bm
    have keep3 : ∀ b u, b ≠ P → s2.heap.get? b = some u → h3.get? b = some u := fun b u hb e => hx b u hb e
    refine wpAny_builtinsFor (m := X.mg) (by rw [I2.ok.glob]; exact (I2.mod.glob.keeps I2.bk).extBut hx TB.gP) e1 e2 (keep3 _ _ e4 (I2.bk _ _ e5)) e6 e7 e8 ?_
    intro h' hn' hs'
    have I4 : Inv X pins σ (upd H2 P (.tbl (ps ++ more))) { s2 with heap := h3, gens := s2.gens, drawn := s2.drawn, toks := tk } := inv_tab I2 hP keep3 hP3 I2.bare
    have st3 : tn 0 h3 := T.keep _ _ _ st2 fun b hb o e => keep3 b o (fpP b hb) e
    have f3 : ∀ b ∈ fp, FpOk X pins (upd H2 P (.tbl (ps ++ more))) b ∧ b < h3.objs.size := fun b hb =>
      ⟨⟨by rw [upd_ne (fpP b hb)]; exact (f2 b hb).1, (f2 b hb).2⟩, Nat.lt_of_lt_of_le (sz b hb) hsz⟩
    have hsz5 : h'.objs.size = h3.objs.size + 1 := by rw [hs'.1, Heap.size_push]
    have keep' : ∀ b o, h3.get? b = some o → h'.get? b = some o := fun b o e => hs'.extBut b o (Nat.ne_of_lt (Heap.lt_size e)) (Heap.get?_push_of_some _ e)
    have keep5 : ∀ b o, h3.get? b = some o → (h'.push { cls := .type "generator", data := .fields #[.int s2.gens.size 0, .str "<genexpr>" (tk + 1), .str (X.env.qual ++ "<genexpr>") (tk + 1 + 1)] }).get? b = some o := fun b o e => Heap.get?_push_of_some _ (keep' b o e)
    obtain ⟨W, ⟨m0, w0⟩, turn⟩ := q more ht3
    have hgo : (h'.push { cls := .type "generator", data := .fields #[.int s2.gens.size 0, .str "<genexpr>" (tk + 1), .str (X.env.qual ++ "<genexpr>") (tk + 1 + 1)] }).get? h'.objs.size = some { cls := .type "generator", data := .fields #[.int s2.gens.size 0, .str "<genexpr>" (tk + 1), .str (X.env.qual ++ "<genexpr>") (tk + 1 + 1)] } := Heap.get?_push_size _ rfl
    refine ⟨{ s2 with heap := h3, gens := s2.gens, drawn := s2.drawn, toks := tk }, _, genEnv scope (cloFrom X.env.cells scope.names []) h3.objs.size code builtinsNs X.env, fp, (h'.objs.size, { cls := .type "generator", data := .fields #[.int s2.gens.size 0, .str "<genexpr>" (tk + 1), .str (X.env.qual ++ "<genexpr>") (tk + 1 + 1)] }), s2.gens.size, _, I4, fun b hb => (f3 b hb).1, rfl,
      fun h e => ⟨_, _, _, e, rfl, rfl, rfl⟩, hgo, Array.getElem?_push_size .., I4.nolimit.keeps keep5, AllBare.push I2.bare rfl, rfl, fun A0 s' hh hfr hrm eh eo hb => ⟨m0 + 1, ?_⟩⟩
    have hnew : (h'.push { cls := .type "generator", data := .fields #[.int s2.gens.size 0, .str "<genexpr>" (tk + 1), .str (X.env.qual ++ "<genexpr>") (tk + 1 + 1)] }).Ns h3.objs.size (fun y => if y = ".0" then some (.ref it) else none) := hn'.push _
    have I5 := gen_start (A' := A0.deeper (genEnv scope (cloFrom X.env.cells scope.names []) h3.objs.size code builtinsNs X.env)) (s5 := s') (itv := .ref it) (code := code) I4 ok hcell hN f3 (fun hc' => by show A0.handled = none; exact hh hc')
      (Around.frames_deeper hfr) (by rw [eh]; exact keep5) eo hb (by rw [eh]; exact hnew) (Ia := h'.objs.size) (by show h3.objs.size < _; rw [hsz5]; exact Nat.lt_succ_self _) (by rw [eh]; exact hgo) (fun v e => by cases e)
    refine seg_gstart (X := gex X (A0.deeper (genEnv scope (cloFrom X.env.cells scope.names []) h3.objs.size code builtinsNs X.env)) { s2 with heap := h3, gens := s2.gens, drawn := s2.drawn, toks := tk } (upd H2 P (.tbl (ps ++ more))) (genEnv scope (cloFrom X.env.cells scope.names []) h3.objs.size code builtinsNs X.env) fp)
      rfl rfl hc rfl hco T (hg _ _ _ _ _ _ _ hrm) (ht _ _ _ _ _ _ _ hrm) (he _ _ _ _ _ _ _ hrm) (fun b hb => ⟨hb, ?_⟩) turn (Nat.lt_succ_self m0) I5 (T.keep _ _ _ st3 fun b _ o e => by rw [eh]; exact keep5 b o e) (fun b hb => (f3 b hb).1.1) w0
    show h'.objs.size ≠ b
    exact Nat.ne_of_gt (by rw [hsz5]; exact Nat.lt_succ_of_lt (f3 b hb).2)
  cases hf : codeAmong gpos ps.toList with
  | none =>
    refine wpAny_genexprCodeX hcode (cd.code hPs ht0) (cd.tab hPs) hf fun c' h' tk hx hge hlt hco' _ htab' _ => ?_
    obtain ⟨o1, vs, f1, tf, fl, tg, inF, tx, tt, op, _, _, _, _, _, _, _, _, _, htr, _⟩ := hco'
    exact cont _ h' tk _ hx (Nat.le_trans hge (Nat.le_of_lt hlt)) htab'.2 htr
  | some cv =>
    refine wpAny_genexprCode_hit hcode (cd.code hPs ht0) hf ?_
    exact cont cv s2.heap s2.toks #[] (Heap.ExtBut.refl _ _) (Nat.le_refl _) (by rw [Array.append_empty]; exact hPs) (by rw [Array.append_empty]; exact ht0)
theorem gready_end {Q : Bool → Hp → Prop} {u : Value} {s5 : Shared} {A : Around} {R : Result → Shared → Prop} (hc : X.calm = true) (ok : X.Ok) (hA : A = X.A) (hr : Room (k + 1) X.A) (h : GReady X pins σ k z Q u s5) (hR : ∀ b s' H', Inv X pins σ H' s' → Q b H' → R (.ok (.ret (.bool b))) s') :
    u ≠ .none ∧ wpAny (model X.prog X.w) A.in1 (pyIter u) (fun it s' => (z = true → codeAny (model X.prog X.w) A (.builtin "any.loop" ⟨[it], []⟩) R s') ∧ (z = false → codeAny (model X.prog X.w) A (.builtin "all.loop" ⟨[it], []⟩) R s')) (fun _ _ => False) s5 := by
  subst hA
  obtain ⟨s4, H4, cenv, fp, p, g, cd, I4, f4, rfl, hgen, hgo, hgs, hl, hb, os, wake⟩ := h
  refine ⟨by simp, wpAny_pyIter_gen (hgen _ hgo) ?_⟩
  have hh : X.A.handled = none := hr.hd
  have hrd : Room k (X.A.in1.in1.deeper cenv) := ⟨hr.hd, by have := hr.dp; show X.A.depth + 1 + 3 * k + 5 < _; omega, by have := hr.un; show X.A.units + 1 + 1 + 3 + 16 * k + 200 < _; omega⟩
  obtain ⟨n, sg⟩ := wake X.A.in1.in1 (s5.setGen g .running) (fun _ => hh) ok.frames hrd rfl rfl (allBare_setGen hb rfl)
  have hend : ∀ b s', GDone (gex X (X.A.in1.in1.deeper cenv) s4 H4 cenv fp) p Q b s' → R (.ok (.ret (.bool b))) s' := fun b s' ⟨σ', H', s1, I', q, hk, ho, hb'⟩ => by
    refine hR b s' H' (I4.call' (ch := fp) (ho.trans I'.os) (I'.base.trans (Un.kept hk)) (I'.hok.kept hk) hb' fun b hb => ⟨(f4 b hb).2.2.2.1, (f4 b hb).2.1, (f4 b hb).2.2.2.2.1, (f4 b hb).2.2.2.2.2⟩) q
  have hd : X.A.depth < recursionLimit := by have := hr.dp; omega
  refine ⟨fun e => ?_, fun e => ?_⟩
  · subst e
    exact gloop_any (X := gex X (X.A.in1.in1.deeper cenv) s4 H4 cenv fp) (p := p) hh hd hgen hend n s5 (hgen _ hgo) hl ⟨_, hgs, rfl, sg⟩
  · subst e
    exact gloop_all (X := gex X (X.A.in1.in1.deeper cenv) s4 H4 cenv fp) (p := p) hh hd hgen hend n s5 (hgen _ hgo) hl ⟨_, hgs, rfl, sg⟩
theorem pe_anyG (hr : Room (k + 1) X.A) (hgl : Gl X "any") (hm : X.mg "any" = none) (hc : X.calm = true) (hN : X.N.Nodup) (TB : TabB X.base X.mg c P) (hcode : X.env.code = .ref c) (hi : PI X tg iter wi) (ok : BlkOk X.N X.env.scope scope own) (hcell : ∀ y ∈ scope.names, y.2 ≠ .cell)
    (hdot : scope.names.lookup (".0" : Str) = some NameKind.local) (hco : scope.isCoroutine = false)
    (hg : ∀ (A' : Around) (s : Shared) (H : Hp) (C : Addr) (cl : List (Str × Addr)) (code : Value) (fp : List Addr), Room k A' → PG (gex X A' s H (genEnv scope cl C code builtinsNs X.env) fp) tg g)
    (ht : ∀ (A' : Around) (s : Shared) (H : Hp) (C : Addr) (cl : List (Str × Addr)) (code : Value) (fp : List Addr), Room k A' → PTs (gex X A' s H (genEnv scope cl C code builtinsNs X.env) fp) ifs tt)
    (he : ∀ (A' : Around) (s : Shared) (H : Hp) (C : Addr) (cl : List (Str × Addr)) (code : Value) (fp : List Addr), Room k A' → PE (gex X A' s H (genEnv scope cl C code builtinsNs X.env) fp) elt te)
    (hs : ∀ v, genFold iter X.env v = pure v := by intro _; rfl)
    (hst : starEach [.GeneratorExp elt [⟨tg, iter, ifs, 0⟩] scope gpos] X.env = (false, eval (.GeneratorExp elt [⟨tg, iter, ifs, 0⟩] scope gpos) X.env) :: starEach [] X.env := by rfl) :
    PE X (.Call (.Name "any" pp) [.GeneratorExp elt [⟨tg, iter, ifs, 0⟩] scope gpos] [] pos) (tGx P wi g tt te (own.map (·.2)) true) := by
  refine ⟨fun pins s σ H Q I h => ?_⟩
  refine wpAny_Call_Name_kw (ld_blt I hgl hm boot_any ?_)
  refine PyProof.Rows.callWith_builtin1 ?_ hst (by rfl)
  rw [hst]
  show wpAny _ _ (spliced ((false, eval (.GeneratorExp elt [⟨tg, iter, ifs, 0⟩] scope gpos) X.env) :: backTo pos (starEach [] X.env))) _ _ s
  refine Calls.spliced_cons (wpAny_mono (gx_make (k := k) hr hc hN TB hcode hi ok hcell hdot hco hs hg ht he I h) (fun u s5 hG => ?_) fun _ _ e => e)
  refine Calls.spliced_nil ?_
  refine call_function_tree F.kind_any F.plain_any F.entry_any (F.args_any1 _) ?_
  unfold Builtin.«any»
  refine wpAny_bind (m := oneArg "any" _) (wpAny_pure ?_)
  obtain ⟨_, q⟩ := gready_end (A := X.A) (R := fun r s' => match r with | .ok (.ret v) => EP X pins σ Q v s' | .ok _ => False | .error e => X.xe e s') hc I.ok rfl hr hG fun b s' H' I' q => ⟨.bl b, H', I', rfl, q⟩
  refine wpAny_bind (thnF q fun it s' h2 => wpAny_pure ⟨plainId_quiet F.plain_any_loop _, ?_⟩)
  exact h2.1 rfl
theorem pe_allG (hr : Room (k + 1) X.A) (hgl : Gl X "all") (hm : X.mg "all" = none) (hc : X.calm = true) (hN : X.N.Nodup) (TB : TabB X.base X.mg c P) (hcode : X.env.code = .ref c) (hi : PI X tg iter wi) (ok : BlkOk X.N X.env.scope scope own) (hcell : ∀ y ∈ scope.names, y.2 ≠ .cell)
    (hdot : scope.names.lookup (".0" : Str) = some NameKind.local) (hco : scope.isCoroutine = false)
    (hg : ∀ (A' : Around) (s : Shared) (H : Hp) (C : Addr) (cl : List (Str × Addr)) (code : Value) (fp : List Addr), Room k A' → PG (gex X A' s H (genEnv scope cl C code builtinsNs X.env) fp) tg g)
    (ht : ∀ (A' : Around) (s : Shared) (H : Hp) (C : Addr) (cl : List (Str × Addr)) (code : Value) (fp : List Addr), Room k A' → PTs (gex X A' s H (genEnv scope cl C code builtinsNs X.env) fp) ifs tt)
    (he : ∀ (A' : Around) (s : Shared) (H : Hp) (C : Addr) (cl : List (Str × Addr)) (code : Value) (fp : List Addr), Room k A' → PE (gex X A' s H (genEnv scope cl C code builtinsNs X.env) fp) elt te)
    (hs : ∀ v, genFold iter X.env v = pure v := by intro _; rfl)
    (hst : starEach [.GeneratorExp elt [⟨tg, iter, ifs, 0⟩] scope gpos] X.env = (false, eval (.GeneratorExp elt [⟨tg, iter, ifs, 0⟩] scope gpos) X.env) :: starEach [] X.env := by rfl) :
    PE X (.Call (.Name "all" pp) [.GeneratorExp elt [⟨tg, iter, ifs, 0⟩] scope gpos] [] pos) (tGx P wi g tt te (own.map (·.2)) false) := by
  refine ⟨fun pins s σ H Q I h => ?_⟩
  refine wpAny_Call_Name_kw (ld_blt I hgl hm boot_all ?_)
  refine PyProof.Rows.callWith_builtin1 ?_ hst (by rfl)
  rw [hst]
  show wpAny _ _ (spliced ((false, eval (.GeneratorExp elt [⟨tg, iter, ifs, 0⟩] scope gpos) X.env) :: backTo pos (starEach [] X.env))) _ _ s
  refine Calls.spliced_cons (wpAny_mono (gx_make (k := k) hr hc hN TB hcode hi ok hcell hdot hco hs hg ht he I h) (fun u s5 hG => ?_) fun _ _ e => e)
  refine Calls.spliced_nil ?_
  refine call_function_tree F.kind_all F.plain_all F.entry_all (F.args_all1 _) ?_
  unfold Builtin.«all»
  refine wpAny_bind (m := oneArg "all" _) (wpAny_pure ?_)
  obtain ⟨_, q⟩ := gready_end (A := X.A) (R := fun r s' => match r with | .ok (.ret v) => EP X pins σ Q v s' | .ok _ => False | .error e => X.xe e s') hc I.ok rfl hr hG fun b s' H' I' q => ⟨.bl b, H', I', rfl, q⟩
  refine wpAny_bind (thnF q fun it s' h2 => wpAny_pure ⟨plainId_quiet F.plain_all_loop _, ?_⟩)
  exact h2.2 rfl
end
end PF

set_option Elab.async false
set_option linter.all false
set_option maxRecDepth 100000
/-! PF0: heaps that have grown, tables of code objects too. -/
namespace PF
open PySem PySem.Spec PyProof.Rows L2
/-- the tables that the defs of a text write at -/
class Tabs where
  tb : List Addr
def isT : HO → Bool
  | .tbl _ => true
  | _ => false
structure Same (H H' : Hp) : Prop where
  at_ : ∀ p o, H p = some o → isT o = false → H' p = some o
  tb : ∀ p ps, H p = some (.tbl ps) → ∃ more, H' p = some (.tbl (ps ++ more)) ∧ (TriplesOk ps.toList → TriplesOk (ps ++ more).toList)
theorem Same.k {H H' : Hp} (e : Same H H') {p : Addr} {o : HO} (h : H p = some o) (n : isT o = false := by rfl) : H' p = some o := e.at_ p o h n
theorem Same.refl (H : Hp) : Same H H := ⟨fun _ _ h _ => h, fun p ps h => ⟨#[], by rw [Array.append_empty]; exact h, by rw [Array.append_empty]; exact id⟩⟩
theorem Same.trans {H H1 H2 : Hp} (a : Same H H1) (b : Same H1 H2) : Same H H2 :=
  ⟨fun p o h n => b.at_ p o (a.at_ p o h n) n, fun p ps h => by
    obtain ⟨m1, h1, t1⟩ := a.tb p ps h
    obtain ⟨m2, h2, t2⟩ := b.tb p _ h1
    exact ⟨m1 ++ m2, by rw [← Array.append_assoc]; exact h2, fun z => by rw [← Array.append_assoc]; exact t2 (t1 z)⟩⟩
theorem Same.free {H H' : Hp} (e : Same H H') {l : Addr} (h : H' l = Option.none) : H l = Option.none := by
  cases q : H l with
  | none => rfl
  | some o =>
    cases t : isT o with
    | false =>
      have := e.at_ l o q t
      rw [h] at this; cases this
    | true =>
      cases o <;> simp only [isT, reduceCtorEq] at t
      obtain ⟨m, h1, _⟩ := e.tb l _ q
      rw [h] at h1; cases h1
/-- nothing but new things -/
theorem Same.of {H H' : Hp} (e : ∀ p o, H p = some o → H' p = some o) : Same H H' := ⟨fun p o h _ => e p o h, fun p ps h => ⟨#[], by rw [Array.append_empty]; exact e _ _ h, by rw [Array.append_empty]; exact id⟩⟩
theorem Same.l2 {H H' : Hp} (e : L2.Same H H') : Same H H' := Same.of e
theorem Same.seq {K : PySem.W.Frag} {H H' : Hp} {a : Addr} {xs : List V} (e : Same H H') (h : SqL K H a xs) : SqL K H' a xs := by
  rcases h with h | h
  · rcases h with h | ⟨o, h⟩
    · exact .inl (.inl (e.k h))
    · exact .inl (.inr ⟨o, e.k h⟩)
  · exact .inr h
theorem Same.tabG {H H' : Hp} (e : Same H H') {P : Addr} (h : GxR.TabG H P) : GxR.TabG H' P := by
  obtain ⟨ps, h1, h2⟩ := h
  obtain ⟨m, h3, h4⟩ := e.tb P ps h1
  exact ⟨_, h3, h4 h2⟩
theorem Same.tab {H : Hp} {P : Addr} {ps more : Array Value} (h : H P = some (.tbl ps)) (t : TriplesOk (ps ++ more).toList) : Same H (upd H P (.tbl (ps ++ more))) :=
  ⟨fun p o q n => by
    have : p ≠ P := fun z => by rw [z, h] at q; cases q; cases n
    rw [upd_ne this]; exact q, fun p qs q => by
    by_cases e : p = P
    · rw [e, h] at q
      cases q
      exact ⟨more, by rw [e, upd_same], fun _ => t⟩
    · exact ⟨#[], by rw [upd_ne e, Array.append_empty]; exact q, by rw [Array.append_empty]; exact id⟩⟩
end PF

set_option Elab.async false
set_option linter.all false
set_option maxRecDepth 100000
/-! PF1: data behind values, hidden lists, readings as functions of data; expressions. -/
namespace PF
open PySem PySem.Spec PyProof.Rows L2
variable [Tabs]

abbrev D := PyData
mutual
inductive Rp (K : PySem.W.Frag) (H : Hp) : V → D → Prop
  | non : Rp K H .non .none
  | bl (b : Bool) : Rp K H (.bl b) (.bool b)
  | int (i : Int) : Rp K H (.int i) (.int i)
  | str (x : Str) : Rp K H (.str x) (.str x)
  | lst {a : Addr} {xs : List V} {ds : List D} : H a = some (.lst xs) → xs.length ≤ sizeLine → RpAll K H xs ds → Rp K H (.ref a) (.list ds)
  | tup {a : Addr} {xs : List V} {ds : List D} : SqT K H a xs → xs.length ≤ sizeLine → RpAll K H xs ds → Rp K H (.ref a) (.tuple ds)
inductive RpAll (K : PySem.W.Frag) (H : Hp) : List V → List D → Prop
  | nil : RpAll K H [] []
  | cons {v : V} {vs : List V} {d : D} {ds : List D} : Rp K H v d → RpAll K H vs ds → RpAll K H (v :: vs) (d :: ds)
end
section
variable {K : PySem.W.Frag}
theorem rd_mono {H H' : Hp} {a : Addr} {u : HO} (e : Same H H') (h : Rd H a u) (n : isT u = false := by rfl) : Rd H' a u := by
  rcases h with h | ⟨o, h⟩
  · exact .inl (e.k h n)
  · exact .inr ⟨o, e.k h⟩
theorem sqT_mono {H H' : Hp} {a : Addr} {xs : List V} (e : Same H H') (h : SqT K H a xs) : SqT K H' a xs := h.imp (fun z => rd_mono e z) id
mutual
theorem Rp.mono {H H' : Hp} (e : Same H H') : ∀ {v : V} {d : D}, Rp K H v d → Rp K H' v d
  | _, _, .non => .non
  | _, _, .bl b => .bl b
  | _, _, .int i => .int i
  | _, _, .str x => .str x
  | _, _, .lst h z r => .lst (e.k h) z (RpAll.mono e r)
  | _, _, .tup h z r => .tup (sqT_mono e h) z (RpAll.mono e r)
theorem RpAll.mono {H H' : Hp} (e : Same H H') : ∀ {vs : List V} {ds : List D}, RpAll K H vs ds → RpAll K H' vs ds
  | _, _, .nil => .nil
  | _, _, .cons h r => .cons (Rp.mono e h) (RpAll.mono e r)
end
theorem RpAll.length {H : Hp} : ∀ {vs : List V} {ds : List D}, RpAll K H vs ds → vs.length = ds.length
  | _, _, .nil => rfl
  | _, _, .cons _ r => by simp [RpAll.length r]
theorem RpAll.get {H : Hp} : ∀ {vs : List V} {ds : List D} {i : Nat} {d : D}, RpAll K H vs ds → ds[i]? = some d → ∃ v, vs[i]? = some v ∧ Rp K H v d
  | _, _, _, _, .nil, e => by simp at e
  | _, _, 0, _, .cons h _, e => by simp at e; subst e; exact ⟨_, rfl, h⟩
  | _, _, i + 1, _, .cons _ r, e => by
    obtain ⟨v, h1, h2⟩ := RpAll.get (i := i) r (by simpa using e)
    exact ⟨v, by simpa using h1, h2⟩
theorem RpAll.append {H : Hp} : ∀ {vs ws : List V} {ds es : List D}, RpAll K H vs ds → RpAll K H ws es → RpAll K H (vs ++ ws) (ds ++ es)
  | _, _, _, _, .nil, s => s
  | _, _, _, _, .cons h r, s => .cons h (RpAll.append r s)
theorem RpAll.take {H : Hp} : ∀ {vs : List V} {ds : List D} (n : Nat), RpAll K H vs ds → RpAll K H (vs.take n) (ds.take n)
  | _, _, 0, _ => .nil
  | _, _, _ + 1, .nil => .nil
  | _, _, n + 1, .cons h r => .cons h (RpAll.take n r)
theorem RpAll.drop {H : Hp} : ∀ {vs : List V} {ds : List D} (n : Nat), RpAll K H vs ds → RpAll K H (vs.drop n) (ds.drop n)
  | _, _, 0, r => r
  | _, _, _ + 1, .nil => .nil
  | _, _, n + 1, .cons _ r => RpAll.drop n r
theorem RpAll.set {H : Hp} {v : V} {d : D} (h : Rp K H v d) : ∀ {vs : List V} {ds : List D} (i : Nat), RpAll K H vs ds → RpAll K H (vs.set i v) (ds.set i d)
  | _, _, _, .nil => .nil
  | _, _, 0, .cons _ r => .cons h r
  | _, _, i + 1, .cons q r => .cons q (RpAll.set h i r)
theorem RpAll.rep {H : Hp} {vs : List V} {ds : List D} (h : RpAll K H vs ds) : ∀ n : Nat, RpAll K H (List.replicate n vs).flatten (List.replicate n ds).flatten
  | 0 => .nil
  | n + 1 => by
    rw [List.replicate_succ, List.replicate_succ, List.flatten_cons, List.flatten_cons]
    exact h.append (RpAll.rep h n)
theorem RpAll.rev {H : Hp} : ∀ {vs : List V} {ds : List D}, RpAll K H vs ds → RpAll K H vs.reverse ds.reverse
  | _, _, .nil => .nil
  | _, _, .cons h r => by
    rw [List.reverse_cons, List.reverse_cons]
    exact (RpAll.rev r).append (.cons h .nil)
end

mutual
theorem Rp.dp {K : PySem.W.Frag} {H : Hp} : ∀ {v : V} {d : D}, Rp K H v d → Dp K H v d
  | _, _, .non => .non
  | _, _, .bl b => .bl b
  | _, _, .int i => .int i
  | _, _, .str x => .str x
  | _, _, .lst h _ r => .lst (SqL.of h) (RpAll.dp r)
  | _, _, .tup h _ r => .tup h (RpAll.dp r)
theorem RpAll.dp {K : PySem.W.Frag} {H : Hp} : ∀ {vs : List V} {ds : List D}, RpAll K H vs ds → DpAll K H vs ds
  | _, _, .nil => .nil
  | _, _, .cons h r => .cons (Rp.dp h) (RpAll.dp r)
end
abbrev AS := Addr → Prop
open Classical in
noncomputable def hide (S : AS) (H : Hp) : Hp := fun p => if S p then none else H p
theorem hide_iff {S : AS} {H : Hp} {p : Addr} {o : HO} : hide S H p = some o ↔ ¬ S p ∧ H p = some o := by
  unfold hide
  by_cases h : S p
  · rw [if_pos h]; exact ⟨fun e => (nomatch e), fun e => absurd h e.1⟩
  · rw [if_neg h]; exact ⟨fun e => ⟨h, e⟩, fun e => e.2⟩
theorem hide_sub {S : AS} {H : Hp} : Same (hide S H) H := Same.of fun p o e => (hide_iff.mp e).2
theorem hide_mono {S : AS} {H H' : Hp} (e : Same H H') : Same (hide S H) (hide S H') := ⟨fun p o h n => by
  have := hide_iff.mp h
  exact hide_iff.mpr ⟨this.1, e.k this.2 n⟩, fun p ps h => by
  have := hide_iff.mp h
  obtain ⟨m, h1, h2⟩ := e.tb p ps this.2
  exact ⟨m, hide_iff.mpr ⟨this.1, h1⟩, h2⟩⟩
/-- what may be hidden: lists, dicts .. but no tuple -/
def mutO : HO → Bool
  | .lst _ => true
  | .dK _ => true
  | .dT _ => true
  | .ins _ _ _ => true
  | .own _ => true
  | _ => false
structure HidOk (S : AS) (H : Hp) : Prop where
  at_ : ∀ p, S p → ∃ o, H p = some o ∧ mutO o = true
  tab : ∀ P ∈ Tabs.tb, GxR.TabG H P
theorem HidOk.mono {S : AS} {H H' : Hp} (h : HidOk S H) (e : Same H H') : HidOk S H' := ⟨fun p hp => by
  obtain ⟨o, h1, h2⟩ := h.at_ p hp
  exact ⟨o, e.k h1 (by cases o <;> first | rfl | cases h2), h2⟩, fun P hP => e.tabG (h.tab P hP)⟩
theorem HidOk.bare {S : AS} {H : Hp} (h : HidOk S H) : HidOk (fun _ => False) H := ⟨fun _ z => z.elim, h.tab⟩
theorem HidOk.no {S : AS} {H : Hp} {p : Addr} (h : HidOk S H) (n : H p = none) : ¬ S p := fun q => by
  obtain ⟨o, h1, _⟩ := h.at_ p q
  rw [n] at h1; cases h1
/-- a larger heap of which less is hidden, or new -/
theorem hide_to {S S' : AS} {H H' : Hp} (e : Same H H') (h : ∀ p, S' p → S p ∨ H p = none) : Same (hide S H) (hide S' H') := ⟨fun p o q n => by
  have := hide_iff.mp q
  refine hide_iff.mpr ⟨fun z => ?_, e.k this.2 n⟩
  rcases h p z with z | z
  · exact this.1 z
  · rw [z] at this; exact (nomatch this.2), fun p ps q => by
  have := hide_iff.mp q
  obtain ⟨m, h1, h2⟩ := e.tb p ps this.2
  refine ⟨m, hide_iff.mpr ⟨fun z => ?_, h1⟩, h2⟩
  rcases h p z with z | z
  · exact this.1 z
  · rw [z] at this; exact (nomatch this.2)⟩

mutual
def noL : D → Bool
  | .list _ => false
  | .dict _ => false
  | .tuple xs => noLs xs
  | _ => true
def noLs : List D → Bool
  | [] => true
  | x :: xs => noL x && noLs xs
end
section
variable {K : PySem.W.Frag}
theorem sqT_hide {S : AS} {H : Hp} {a : Addr} {xs : List V} (hs : HidOk S H) (h : SqT K H a xs) : SqT K (hide S H) a xs := by
  rcases h with h | h
  · refine .inl ?_
    have no : ∀ o, H a = some o → mutO o = false → ¬ S a := fun o e m z => by
      obtain ⟨u, h1, h2⟩ := hs.at_ a z
      rw [e] at h1; cases h1
      rw [m] at h2; cases h2
    rcases h with h | ⟨o, h⟩
    · exact .inl (hide_iff.mpr ⟨no _ h rfl, h⟩)
    · exact .inr ⟨o, hide_iff.mpr ⟨no _ h rfl, h⟩⟩
  · exact .inr h
mutual
theorem Rp.unhide {S : AS} {H : Hp} (hs : HidOk S H) : ∀ {v : V} {d : D}, noL d = true → Rp K H v d → Rp K (hide S H) v d
  | _, _, _, .non => .non
  | _, _, _, .bl b => .bl b
  | _, _, _, .int i => .int i
  | _, _, _, .str x => .str x
  | _, _, n, .lst h _ r => by simp [noL] at n
  | _, _, n, .tup h z r => .tup (sqT_hide hs h) z (RpAll.unhide hs (by simpa [noL] using n) r)
theorem RpAll.unhide {S : AS} {H : Hp} (hs : HidOk S H) : ∀ {vs : List V} {ds : List D}, noLs ds = true → RpAll K H vs ds → RpAll K (hide S H) vs ds
  | _, _, _, .nil => .nil
  | _, _, n, .cons h r => by
    simp only [noLs, Bool.and_eq_true] at n
    exact .cons (Rp.unhide hs n.1 h) (RpAll.unhide hs n.2 r)
end
end

/-- a slot: data; a list of the def's own that may change -/
inductive Sl where
  | val (d : D)
  | own (ds : List D)
  | scr (ns : List Int)
abbrev Rho := List (Option Sl)

def SlOk (K : PySem.W.Frag) (S : AS) (H : Hp) (v : V) : Sl → Prop
  | .val d => Rp K (hide S H) v d
  | .own ds => ∃ a vs, v = .ref a ∧ H a = some (.lst vs) ∧ vs.length ≤ sizeLine ∧ RpAll K (hide S H) vs ds
  | .scr ns => ∃ a, v = .ref a ∧ SqL K (hide S H) a (ns.map V.int) ∧ ns.length ≤ 63
structure EOk (K : PySem.W.Frag) (S : AS) (H : Hp) (σ : L2.St) (ρ : Rho) : Prop where
  len : ρ.length ≤ σ.length
  hid : HidOk S H
  sl : ∀ (i : Nat) (s : Sl), ρ[i]? = some (some s) → ∃ v, σ[i]? = some (some v) ∧ SlOk K S H v s
section
variable {K : PySem.W.Frag} {S S' : AS} {H H' : Hp} {σ : L2.St} {ρ : Rho} {v : V}
theorem SlOk.mono (e : Same H H') : ∀ {s : Sl}, SlOk K S H v s → SlOk K S H' v s
  | .val d, h => Rp.mono (hide_mono e) h
  | .own ds, ⟨a, vs, h1, h2, z, h3⟩ => ⟨a, vs, h1, e.k h2, z, RpAll.mono (hide_mono e) h3⟩
  | .scr ns, ⟨a, h1, h2, h3⟩ => ⟨a, h1, (hide_mono e).seq h2, h3⟩
theorem EOk.mono (h : EOk K S H σ ρ) (e : Same H H') : EOk K S H' σ ρ :=
  ⟨h.len, h.hid.mono e, fun i s q => let ⟨v, h1, h2⟩ := h.sl i s q; ⟨v, h1, h2.mono e⟩⟩

/-- clean; or a list whose items are clean -/
def DpT (K : PySem.W.Frag) (S : AS) (H : Hp) (v : V) (d : D) : Prop :=
  Rp K (hide S H) v d ∨ ∃ a vs ds, v = .ref a ∧ d = .list ds ∧ H a = some (.lst vs) ∧ vs.length ≤ sizeLine ∧ RpAll K (hide S H) vs ds
theorem DpT.mono {d : D} (e : Same H H') (h : DpT K S H v d) : DpT K S H' v d := by
  rcases h with h | ⟨a, vs, ds, h1, h2, h3, z, h4⟩
  · exact .inl (Rp.mono (hide_mono e) h)
  · exact .inr ⟨a, vs, ds, h1, h2, e.k h3, z, RpAll.mono (hide_mono e) h4⟩
/-- seen in the whole heap -/
theorem DpT.all {d : D} (h : DpT K S H v d) : Rp K H v d := by
  rcases h with h | ⟨a, vs, ds, h1, h2, h3, z, h4⟩
  · exact Rp.mono hide_sub h
  · subst h1 h2
    exact .lst h3 z (RpAll.mono hide_sub h4)
theorem DpT.clean {d : D} (hs : HidOk S H) (n : noL d = true) (h : DpT K S H v d) : Rp K (hide S H) v d := Rp.unhide hs n h.all
/-- a list: where its items stand -/
theorem DpT.list {ds : List D} (h : DpT K S H v (.list ds)) : ∃ a vs, v = .ref a ∧ H a = some (.lst vs) ∧ vs.length ≤ sizeLine ∧ RpAll K (hide S H) vs ds := by
  rcases h with h | ⟨a, vs, ds', h1, h2, h3, z, h4⟩
  · cases h with
    | lst h z r => exact ⟨_, _, rfl, hide_sub.k h, z, r⟩
  · cases h2
    exact ⟨a, vs, h1, h3, z, h4⟩
theorem DpT.tuple {ds : List D} (h : DpT K S H v (.tuple ds)) : ∃ a vs, v = .ref a ∧ SqT K H a vs ∧ vs.length ≤ sizeLine ∧ RpAll K (hide S H) vs ds := by
  rcases h with h | ⟨a, vs, ds', h1, h2, h3, z, h4⟩
  · cases h with
    | tup h z r => exact ⟨_, _, rfl, sqT_mono hide_sub h, z, r⟩
  · cases h2
theorem DpT.int {i : Int} (h : DpT K S H v (.int i)) : v = .int i := by
  rcases h with h | ⟨a, vs, ds', h1, h2, h3, z, h4⟩
  · cases h; rfl
  · cases h2
theorem DpT.bool {b : Bool} (h : DpT K S H v (.bool b)) : v = .bl b := by
  rcases h with h | ⟨a, vs, ds', h1, h2, h3, z, h4⟩
  · cases h; rfl
  · cases h2
theorem DpT.str {x : Str} (h : DpT K S H v (.str x)) : v = .str x := by
  rcases h with h | ⟨a, vs, ds', h1, h2, h3, z, h4⟩
  · cases h; rfl
  · cases h2
theorem DpT.non_iff {d : D} (h : DpT K S H v d) : v = .non ↔ d = .none := by
  rcases h with h | ⟨a, vs, ds', h1, h2, h3, z, h4⟩
  · cases h <;> simp
  · subst h1 h2; simp
/-- a new list -/
def DpF (K : PySem.W.Frag) (S : AS) (H H' : Hp) (v : V) (ds : List D) : Prop :=
  ∃ a vs, v = .ref a ∧ H a = none ∧ H' a = some (.lst vs) ∧ vs.length ≤ sizeLine ∧ RpAll K (hide (fun p => S p ∨ p = a) H') vs ds
theorem DpF.clean {ds : List D} (hs : HidOk S H) (e : Same H H') (h : DpF K S H H' v ds) : Rp K (hide S H') v (.list ds) := by
  obtain ⟨a, vs, rfl, h1, h2, z, h3⟩ := h
  refine .lst (hide_iff.mpr ⟨hs.no h1, h2⟩) z (RpAll.mono (hide_to (Same.refl _) fun p q => .inl (.inl q)) h3)
theorem same_upd {H1 : Hp} {p : Addr} {o : HO} (hp : H1 p = none) : Same H1 (upd H1 p o) := Same.of fun b u q => by rw [upd_ne (ne_of_none q hp)]; exact q
theorem Same.write {H0 H : Hp} {a : Addr} {o : HO} (e : Same H0 H) (n : H0 a = none) : Same H0 (upd H a o) := ⟨fun p u q t => by
    rw [upd_ne (fun z => by rw [z, n] at q; cases q)]
    exact e.k q t, fun p ps q => by
    obtain ⟨m, h1, h2⟩ := e.tb p ps q
    exact ⟨m, by rw [upd_ne (fun z => by rw [z, n] at q; cases q)]; exact h1, h2⟩⟩
theorem Same.to_hide {S : AS} {H0 H : Hp} (e : Same H0 H) (n : ∀ p, S p → H0 p = none) : Same H0 (hide S H) := ⟨fun p u q t => hide_iff.mpr ⟨fun z => (by rw [n p z] at q; cases q), e.k q t⟩, fun p ps q => by
    obtain ⟨m, h1, h2⟩ := e.tb p ps q
    exact ⟨m, hide_iff.mpr ⟨fun z => (by rw [n p z] at q; cases q), h1⟩, h2⟩⟩
/-- a list just laid -/
theorem DpF.new {ds : List D} {vs : List V} {H1 : Hp} {p : Addr} (e : Same H H1) (hp : H1 p = none) (z : vs.length ≤ sizeLine) (r : RpAll K (hide S H1) vs ds) : DpF K S H (upd H1 p (.lst vs)) (.ref p) ds :=
  ⟨p, vs, rfl, e.free hp, upd_same, z, RpAll.mono (hide_to (same_upd hp) fun q z => z.imp id fun z => by rw [z]; exact hp) r⟩
theorem Rp.newTup {ds : List D} {vs : List V} {H1 : Hp} {p : Addr} (hs : HidOk S H1) (hp : H1 p = none) (z : vs.length ≤ sizeLine) (r : RpAll K (hide S H1) vs ds) : Rp K (hide S (upd H1 p (.tup vs))) (.ref p) (.tuple ds) :=
  .tup (SqT.of (hide_iff.mpr ⟨hs.no hp, upd_same⟩)) z (RpAll.mono (hide_mono (same_upd hp)) r)
end

/-! ### readings -/
def tE (K : PySem.W.Frag) (f : Rho → Option D) : TE := fun σ H Q => ∃ S ρ d, EOk K S H σ ρ ∧ f ρ = some d ∧ ∀ v H', Same H H' → Rp K (hide S H') v d → Q v H'
def tT (K : PySem.W.Frag) (f : Rho → Option D) : TE := fun σ H Q => ∃ S ρ d, EOk K S H σ ρ ∧ f ρ = some d ∧ ∀ v H', Same H H' → DpT K S H' v d → Q v H'
def tF (K : PySem.W.Frag) (f : Rho → Option D) : TE := fun σ H Q => ∃ S ρ d, EOk K S H σ ρ ∧ f ρ = some d ∧ ∀ v H', Same H H' → (∃ ds, d = .list ds ∧ DpF K S H H' v ds) → Q v H'
def tB (K : PySem.W.Frag) (f : Rho → Option Bool) : TT := fun σ H Q => ∃ S ρ b, EOk K S H σ ρ ∧ f ρ = some b ∧ ∀ H', Same H H' → Q b H'
/-- arguments: one by one -/
def AllT (K : PySem.W.Frag) (S : AS) (H : Hp) (vs : List V) (ds : List D) : Prop := Paired (DpT K S H) vs ds
def tAT (K : PySem.W.Frag) (fs : List (Rho → Option D)) : TA := fun σ H Q => ∃ S ρ ds, EOk K S H σ ρ ∧ fs.mapM (fun f => f ρ) = some ds ∧ ∀ vs H', Same H H' → AllT K S H' vs ds → Q vs H'
def tAE (K : PySem.W.Frag) (fs : List (Rho → Option D)) : TA := fun σ H Q => ∃ S ρ ds, EOk K S H σ ρ ∧ fs.mapM (fun f => f ρ) = some ds ∧ ∀ vs H', Same H H' → RpAll K (hide S H') vs ds → Q vs H'
theorem pe_w {X : Cx} {e : Expr} {t t' : TE} (h : PE X e t) (w : ∀ σ H Q, t' σ H Q → t σ H Q) : PE X e t' := ⟨fun pins s σ H Q I q => h.run pins s σ H Q I (w _ _ _ q)⟩
theorem pt_w {X : Cx} {e : Expr} {t t' : TT} (h : PT X e t) (w : ∀ σ H Q, t' σ H Q → t σ H Q) : PT X e t' := ⟨fun pins s σ H Q I q => h.run pins s σ H Q I (w _ _ _ q)⟩
theorem pw_w {X : Cx} {e : Expr} {t t' : TT} (h : PW X e t) (w : ∀ σ H Q, t' σ H Q → t σ H Q) : PW X e t' := ⟨fun wh pins s σ H Q I q => h.run wh pins s σ H Q I (w _ _ _ q)⟩
theorem pa_w {X : Cx} {es : List Expr} {t t' : TA} (h : PA X es t) (w : ∀ σ H Q, t' σ H Q → t σ H Q) : PA X es t' := ⟨fun pos pins s σ H Q I q => h.run pos pins s σ H Q I (w _ _ _ q)⟩
theorem ps_w {X : Cx} {e : Stmt} {t t' : TS} (h : PS X e t) (w : ∀ D σ H, t' D σ H → t D σ H) : PS X e t' := ⟨fun pins s σ H D I q => h.run pins s σ H D I (w _ _ _ q)⟩
theorem pss_w {X : Cx} {e : List Stmt} {t t' : TS} (h : PSs X e t) (w : ∀ D σ H, t' D σ H → t D σ H) : PSs X e t' := ⟨fun pins s σ H D I q => h.run pins s σ H D I (w _ _ _ q)⟩
section
variable {X : Cx} {e : Expr} {K : PySem.W.Frag} {f : Rho → Option D}
theorem g_top (h : PE X e (tE K f)) : PE X e (tT K f) := pe_w h fun σ H Q ⟨S, ρ, d, h1, h2, h3⟩ => ⟨S, ρ, d, h1, h2, fun v H' e r => h3 v H' e (.inl r)⟩
theorem g_clean (h : PE X e (tF K f)) : PE X e (tE K f) := pe_w h fun σ H Q ⟨S, ρ, d, h1, h2, h3⟩ => ⟨S, ρ, d, h1, h2, fun v H' e ⟨ds, ed, r⟩ => by
  subst ed
  exact h3 v H' e (r.clean h1.hid e)⟩
/-- a flat (list-free) value seen is clean -/
def flatF (f : Rho → Option D) : Rho → Option D := fun ρ => (f ρ).bind fun d => if noL d then some d else none
theorem g_flat (h : PE X e (tT K f)) : PE X e (tE K (flatF f)) := pe_w h fun σ H Q ⟨S, ρ, d, h1, h2, h3⟩ => by
  unfold flatF at h2
  cases hf : f ρ with
  | none => rw [hf] at h2; cases h2
  | some d' =>
    rw [hf] at h2
    simp only [Option.bind_some] at h2
    by_cases hn : noL d' = true
    · rw [if_pos hn] at h2; cases h2
      exact ⟨S, ρ, d, h1, hf, fun v H' e r => h3 v H' e (r.clean (h1.hid.mono e) hn)⟩
    · rw [if_neg hn] at h2; cases h2

/-! ### names, constants -/
def varF (i : Nat) : Rho → Option D := fun ρ => match ρ[i]? with | some (some (.val d)) => some d | _ => none
def ownF (i : Nat) : Rho → Option D := fun ρ => match ρ[i]? with | some (some (.own ds)) => some (.list ds) | _ => none
def cF (d : D) : Rho → Option D := fun _ => some d
theorem varF_some {i : Nat} {ρ : Rho} {d : D} (h : varF i ρ = some d) : ρ[i]? = some (some (.val d)) := by
  unfold varF at h
  split at h
  · rename_i d' e; cases h; exact e
  · cases h
theorem ownF_some {i : Nat} {ρ : Rho} {d : D} (h : ownF i ρ = some d) : ∃ ds, d = .list ds ∧ ρ[i]? = some (some (.own ds)) := by
  unfold ownF at h
  split at h
  · rename_i d' e; cases h; exact ⟨_, rfl, e⟩
  · cases h
theorem g_var {i : Nat} (h : PE X e (tVar i)) : PE X e (tE K (varF i)) := pe_w h fun σ H Q ⟨S, ρ, d, h1, h2, h3⟩ => by
  obtain ⟨v, h4, h5⟩ := h1.sl i _ (varF_some h2)
  exact ⟨v, h4, h3 v H (Same.refl H) h5⟩
theorem g_own {i : Nat} (h : PE X e (tVar i)) : PE X e (tT K (ownF i)) := pe_w h fun σ H Q ⟨S, ρ, d, h1, h2, h3⟩ => by
  obtain ⟨ds, rfl, h2'⟩ := ownF_some h2
  obtain ⟨v, h4, a, vs, rfl, h6, z, h7⟩ := h1.sl i _ h2'
  exact ⟨_, h4, h3 _ H (Same.refl H) (.inr ⟨a, vs, ds, rfl, rfl, h6, z, h7⟩)⟩
theorem g_int {i : Int} (h : PE X e (tC (.int i))) : PE X e (tE K (cF (.int i))) := pe_w h fun σ H Q ⟨S, ρ, d, h1, h2, h3⟩ => by
  cases h2; exact h3 _ H (Same.refl H) (.int i)
theorem g_bl {b : Bool} (h : PE X e (tC (.bl b))) : PE X e (tE K (cF (.bool b))) := pe_w h fun σ H Q ⟨S, ρ, d, h1, h2, h3⟩ => by
  cases h2; exact h3 _ H (Same.refl H) (.bl b)
theorem g_non (h : PE X e (tC .non)) : PE X e (tE K (cF .none)) := pe_w h fun σ H Q ⟨S, ρ, d, h1, h2, h3⟩ => by
  cases h2; exact h3 _ H (Same.refl H) .non
theorem g_str {x : Str} (h : PE X e (tC (.str x))) : PE X e (tE K (cF (.str x))) := pe_w h fun σ H Q ⟨S, ρ, d, h1, h2, h3⟩ => by
  cases h2; exact h3 _ H (Same.refl H) (.str x)

/-! ### two-place operations -/
def bin (g : D → D → Option D) (fa fb : Rho → Option D) : Rho → Option D := fun ρ => (fa ρ).bind fun a => (fb ρ).bind fun b => g a b
def un (g : D → Option D) (fa : Rho → Option D) : Rho → Option D := fun ρ => (fa ρ).bind g
def OpS (K : PySem.W.Frag) (r : R2) (g : D → D → Option D) : Prop := ∀ (S : AS) (H : Hp) (x y : V) (a b d : D) (Q : VK), HidOk S H → DpT K S H x a → DpT K S H y b → g a b = some d → (∀ v H', Same H H' → Rp K (hide S H') v d → Q v H') → r x y H Q
def OpF (K : PySem.W.Frag) (r : R2) (g : D → D → Option D) : Prop := ∀ (S : AS) (H : Hp) (x y : V) (a b d : D) (Q : VK), HidOk S H → DpT K S H x a → DpT K S H y b → g a b = some d → (∀ v H', Same H H' → (∃ ds, d = .list ds ∧ DpF K S H H' v ds) → Q v H') → r x y H Q
theorem bin_some {g : D → D → Option D} {fa fb : Rho → Option D} {ρ : Rho} {d : D} (h : bin g fa fb ρ = some d) : ∃ a b, fa ρ = some a ∧ fb ρ = some b ∧ g a b = some d := by
  unfold bin at h
  obtain ⟨a, h1, h2⟩ := Option.bind_eq_some_iff.mp h
  obtain ⟨b, h3, h4⟩ := Option.bind_eq_some_iff.mp h2
  exact ⟨a, b, h1, h3, h4⟩
theorem un_some {g : D → Option D} {fa : Rho → Option D} {ρ : Rho} {d : D} (h : un g fa ρ = some d) : ∃ a, fa ρ = some a ∧ g a = some d := Option.bind_eq_some_iff.mp h
theorem tOp_of {r : R2} {g : D → D → Option D} {fa fb : Rho → Option D} (hr : OpS K r g) : ∀ σ H Q, tE K (bin g fa fb) σ H Q → tOp r (tT K fa) (tT K fb) σ H Q := fun σ H Q ⟨S, ρ, d, h1, h2, h3⟩ => by
  obtain ⟨a, b, ha, hb, hg⟩ := bin_some h2
  exact ⟨S, ρ, a, h1, ha, fun x H1 e1 rx => ⟨S, ρ, b, h1.mono e1, hb, fun y H2 e2 ry => hr S H2 x y a b d Q ((h1.hid.mono e1).mono e2) (rx.mono e2) ry hg fun v H' e3 r => h3 v H' ((e1.trans e2).trans e3) r⟩⟩
theorem DpF.back {S : AS} {H H1 H' : Hp} {v : V} {ds : List D} (e : Same H H1) (h : DpF K S H1 H' v ds) : DpF K S H H' v ds := by
  obtain ⟨a, vs, h1, h2, h3, z, h4⟩ := h
  exact ⟨a, vs, h1, e.free h2, h3, z, h4⟩
theorem tOpF_of {r : R2} {g : D → D → Option D} {fa fb : Rho → Option D} (hr : OpF K r g) : ∀ σ H Q, tF K (bin g fa fb) σ H Q → tOp r (tT K fa) (tT K fb) σ H Q := fun σ H Q ⟨S, ρ, d, h1, h2, h3⟩ => by
  obtain ⟨a, b, ha, hb, hg⟩ := bin_some h2
  exact ⟨S, ρ, a, h1, ha, fun x H1 e1 rx => ⟨S, ρ, b, h1.mono e1, hb, fun y H2 e2 ry => hr S H2 x y a b d Q ((h1.hid.mono e1).mono e2) (rx.mono e2) ry hg fun v H' e3 ⟨ds, ed, r⟩ =>
    h3 v H' ((e1.trans e2).trans e3) ⟨ds, ed, r.back (e1.trans e2)⟩⟩⟩
theorem g_op {a b : Expr} {op : Operator} {r : R2} {g : D → D → Option D} {fa fb : Rho → Option D} {pos : Pos} (ho : OpR X (binaryOp op) r) (hr : OpS K r g) (ha : PE X a (tT K fa)) (hb : PE X b (tT K fb)) : PE X (.BinOp a op b pos) (tE K (bin g fa fb)) := pe_w (pe_op ho ha hb) (tOp_of hr)
theorem g_opF {a b : Expr} {op : Operator} {r : R2} {g : D → D → Option D} {fa fb : Rho → Option D} {pos : Pos} (ho : OpR X (binaryOp op) r) (hr : OpF K r g) (ha : PE X a (tT K fa)) (hb : PE X b (tT K fb)) : PE X (.BinOp a op b pos) (tF K (bin g fa fb)) := pe_w (pe_op ho ha hb) (tOpF_of hr)
theorem g_cmp {a b : Expr} {op : CmpOp} {r : R2} {g : D → D → Option D} {fa fb : Rho → Option D} {pos : Pos} (ho : OpR X (compareOp op) r) (hr : OpS K r g) (ha : PE X a (tT K fa)) (hb : PE X b (tT K fb)) (hm : behindInMarks op b = false) : PE X (.Compare a [op] [b] pos) (tE K (bin g fa fb)) := pe_w (pe_cmpR ho ha hb hm) (tOp_of hr)
/-- the truth of a bool -/
def isB : D → Option Bool
  | .bool b => some b
  | _ => none
def tst (f : Rho → Option D) : Rho → Option Bool := fun ρ => (f ρ).bind isB
theorem tst_some {f : Rho → Option D} {ρ : Rho} {b : Bool} (h : tst f ρ = some b) : f ρ = some (.bool b) := by
  unfold tst at h
  obtain ⟨d, h1, h2⟩ := Option.bind_eq_some_iff.mp h
  cases d <;> simp [isB] at h2
  subst h2; exact h1
theorem gt_cmp {a b : Expr} {op : CmpOp} {r : R2} {g : D → D → Option D} {fa fb : Rho → Option D} {pos : Pos} (ho : OpR X (compareOp op) r) (hr : OpS K r g) (ha : PE X a (tT K fa)) (hb : PE X b (tT K fb)) (hm : behindInMarks op b = false) : PT X (.Compare a [op] [b] pos) (tB K (tst (bin g fa fb))) :=
  pt_w (pt_cmpR ho ha hb hm) fun σ H Q ⟨S, ρ, d, h1, h2, h3⟩ => tOp_of hr σ H _ ⟨S, ρ, _, h1, tst_some h2, fun v H' e r => by
    cases r; exact ⟨d, rfl, h3 H' e⟩⟩
end
end PF

set_option Elab.async false
set_option linter.all false
set_option maxRecDepth 100000
/-! PF2: operators, tests, calls by values. -/
namespace PF
open PySem PySem.Spec PyProof.Rows L2
variable [Tabs]

/-! ### operators on data -/
def addD : D → D → Option D
  | .int a, .int b => some (.int (a + b))
  | .str a, .str b => if a.length + b.length ≤ sizeLine then some (.str (a ++ b)) else none
  | .tuple a, .tuple b => if a.length + b.length ≤ sizeLine then some (.tuple (a ++ b)) else none
  | _, _ => none
def catD : D → D → Option D
  | .list a, .list b => if a.length + b.length ≤ sizeLine then some (.list (a ++ b)) else none
  | _, _ => none
def subD : D → D → Option D
  | .int a, .int b => some (.int (a - b))
  | _, _ => none
def smallI (a : Int) : Bool := decide (-(2 ^ 64) < a) && decide (a < 2 ^ 64)
def mulD : D → D → Option D
  | .int a, .int b => if smallI a || smallI b then some (.int (a * b)) else none
  | _, _ => none
def repD : D → D → Option D
  | .list a, .int k => if decide (-(2 ^ 63) ≤ k) && decide (k < 2 ^ 63) && decide (a.length * k.toNat ≤ sizeLine) then some (.list (List.replicate k.toNat a).flatten) else none
  | _, _ => none
def modD : D → D → Option D
  | .int a, .int b => if b ≠ 0 then some (.int (a.fmod b)) else none
  | _, _ => none
def fdivD : D → D → Option D
  | .int a, .int b => if b ≠ 0 ∧ b.natAbs < 1073741824 then some (.int (a.fdiv b)) else none
  | _, _ => none
def powD : D → D → Option D
  | .int a, .int b => if 0 ≤ b ∧ b ≤ 1000000 ∧ a.natAbs < 2 ^ 64 then some (.int (a ^ b.toNat)) else none
  | _, _ => none
def negD : D → Option D
  | .int a => some (.int (-a))
  | _ => none
section
variable {X : Cx} {K : PySem.W.Frag} {S : AS} {H : Hp}
abbrev rAddA (K : PySem.W.Frag) : R2 := fun x y H Q => (fun x y H Q => rI0 (fun i j => .int (i + j)) x y H Q ∨ (∃ i j, x = V.str i ∧ y = V.str j ∧ i.length + j.length ≤ sizeLine ∧ Q (V.str (i ++ j)) H)) x y H Q ∨ rCatA K x y H Q
theorem op_addA : OpR X (binaryOp .Add) (rAddA X.K) := (op_add.or op_add_str).or op_catA
theorem RpAll.nil_iff {vs : List V} {ds : List D} (r : RpAll K H vs ds) : vs = [] ↔ ds = [] := by
  cases r <;> simp
theorem os_add : OpS K (rAddA K) addD := by
  intro S H x y a b d Q hs ha hb hg k
  cases a <;> cases b <;> simp only [addD, reduceCtorEq] at hg
  case int i j =>
    cases hg
    have e1 := ha.int; have e2 := hb.int
    subst e1 e2
    exact .inl (.inl ⟨i, j, rfl, rfl, k _ H (Same.refl H) (.int _)⟩)
  case str i j =>
    split at hg
    · rename_i hz
      cases hg
      have e1 := ha.str; have e2 := hb.str
      subst e1 e2
      exact .inl (.inr ⟨i, j, rfl, rfl, hz, k _ H (Same.refl H) (.str _)⟩)
    · cases hg
  case tuple xs ys =>
    split at hg
    · rename_i hz
      cases hg
      obtain ⟨p, vs, rfl, hp, zp, rp⟩ := ha.tuple
      obtain ⟨q, ws, rfl, hq, zq, rq⟩ := hb.tuple
      have l1 := rp.length
      have l2 := rq.length
      refine .inr ⟨p, q, vs, ws, rfl, rfl, hp, hq, by omega, fun e => ?_, fun _ e => ?_, fun _ _ o no => ?_⟩
      · have e' := rp.nil_iff.mp e
        subst e'
        exact k _ H (Same.refl H) (.tup (sqT_hide hs hq) zq (by simpa using rq))
      · have e' := rq.nil_iff.mp e
        subst e'
        exact k _ H (Same.refl H) (.tup (sqT_hide hs hp) zp (by simpa using rp))
      · exact k _ _ (same_upd no) (Rp.newTup hs no (by rw [List.length_append]; omega) (rp.append rq))
    · cases hg
theorem os_sub : OpS K (rI0 fun i j => .int (i - j)) subD := by
  intro S H x y a b d Q hs ha hb hg k
  cases a <;> cases b <;> simp only [subD, reduceCtorEq] at hg
  case int i j =>
    cases hg
    have e1 := ha.int; have e2 := hb.int
    subst e1 e2
    exact ⟨i, j, rfl, rfl, k _ H (Same.refl H) (.int _)⟩
theorem os_mul : OpS K (rI CMul fun i j => .int (i * j)) mulD := by
  intro S H x y a b d Q hs ha hb hg k
  cases a <;> cases b <;> simp only [mulD, reduceCtorEq] at hg
  case int i j =>
    split at hg
    · rename_i hz
      cases hg
      have e1 := ha.int; have e2 := hb.int
      subst e1 e2
      refine ⟨i, j, rfl, rfl, ?_, k _ H (Same.refl H) (.int _)⟩
      simp only [smallI, Bool.or_eq_true, Bool.and_eq_true, decide_eq_true_eq] at hz
      exact hz
    · cases hg
theorem os_mod : OpS K (rI (fun _ j => j ≠ 0) fun i j => .int (i.fmod j)) modD := by
  intro S H x y a b d Q hs ha hb hg k
  cases a <;> cases b <;> simp only [modD, reduceCtorEq] at hg
  case int i j =>
    split at hg
    · rename_i hz
      cases hg
      have e1 := ha.int; have e2 := hb.int
      subst e1 e2
      exact ⟨i, j, rfl, rfl, hz, k _ H (Same.refl H) (.int _)⟩
    · cases hg
theorem os_fdiv : OpS K (rI CDivN fun i j => .int (i.fdiv j)) fdivD := by
  intro S H x y a b d Q hs ha hb hg k
  cases a <;> cases b <;> simp only [fdivD, reduceCtorEq] at hg
  case int i j =>
    split at hg
    · rename_i hz
      cases hg
      have e1 := ha.int; have e2 := hb.int
      subst e1 e2
      exact ⟨i, j, rfl, rfl, hz, k _ H (Same.refl H) (.int _)⟩
    · cases hg
theorem os_pow : OpS K (rI CPow fun i j => .int (i ^ j.toNat)) powD := by
  intro S H x y a b d Q hs ha hb hg k
  cases a <;> cases b <;> simp only [powD, reduceCtorEq] at hg
  case int i j =>
    split at hg
    · rename_i hz
      cases hg
      have e1 := ha.int; have e2 := hb.int
      subst e1 e2
      exact ⟨i, j, rfl, rfl, hz, k _ H (Same.refl H) (.int _)⟩
    · cases hg
theorem of_cat : OpF K rCat catD := by
  intro S H x y a b d Q hs ha hb hg k
  cases a <;> cases b <;> simp only [catD, reduceCtorEq] at hg
  case list xs ys =>
    split at hg
    · rename_i hz
      cases hg
      obtain ⟨p, vs, rfl, hp, zp, rp⟩ := ha.list
      obtain ⟨q, ws, rfl, hq, zq, rq⟩ := hb.list
      have l1 := rp.length
      have l2 := rq.length
      exact ⟨p, q, vs, ws, rfl, rfl, hp, hq, by omega, fun o no => k _ _ (same_upd no) ⟨_, rfl, DpF.new (Same.refl H) no (by rw [List.length_append]; omega) (rp.append rq)⟩⟩
    · cases hg
theorem of_rep : OpF K rRep repD := by
  intro S H x y a b d Q hs ha hb hg k
  cases a <;> cases b <;> simp only [repD, reduceCtorEq] at hg
  case list.int xs i =>
    split at hg
    · rename_i hz
      cases hg
      simp only [Bool.and_eq_true, decide_eq_true_eq] at hz
      obtain ⟨p, vs, rfl, hp, zp, rp⟩ := ha.list
      have e2 := hb.int
      subst e2
      have l1 := rp.length
      exact ⟨p, i, vs, rfl, rfl, hp, hz.1.1, hz.1.2, by rw [l1]; exact hz.2, fun o no => k _ _ (same_upd no) ⟨_, rfl, DpF.new (Same.refl H) no (by rw [(rp.rep _).length]; simpa [Nat.mul_comm] using hz.2) (rp.rep _)⟩⟩
    · cases hg

/-! ### comparisons -/
def eqD (a b : D) : Option D := if SeqAt.shaped a && SeqAt.shaped b then some (.bool (PyData.eqv a b)) else none
def neD (a b : D) : Option D := if SeqAt.shaped a && SeqAt.shaped b then some (.bool (!PyData.eqv a b)) else none
def cmpI (p : Int → Int → Bool) : D → D → Option D
  | .int a, .int b => some (.bool (p a b))
  | _, _ => none
def ltI : D → D → Option D := cmpI fun a b => decide (a < b)
def leI : D → D → Option D := cmpI fun a b => decide (a ≤ b)
def gtI : D → D → Option D := cmpI fun a b => decide (b < a)
def geI : D → D → Option D := cmpI fun a b => decide (b ≤ a)
def isNone : D → Bool
  | .none => true
  | _ => false
def isND (a b : D) : Option D := if isNone b then some (.bool (isNone a)) else none
def notND (a b : D) : Option D := if isNone b then some (.bool (!isNone a)) else none
theorem os_eq : OpS K (rEqD K) eqD := by
  intro S H x y a b d Q hs ha hb hg k
  unfold eqD at hg
  split at hg
  · rename_i hz
    cases hg
    simp only [Bool.and_eq_true] at hz
    exact ⟨a, b, ha.all.dp, hb.all.dp, hz.1, hz.2, k _ H (Same.refl H) (.bl _)⟩
  · cases hg
theorem os_ne : OpS K (rNeD K) neD := by
  intro S H x y a b d Q hs ha hb hg k
  unfold neD at hg
  split at hg
  · rename_i hz
    cases hg
    simp only [Bool.and_eq_true] at hz
    exact ⟨a, b, ha.all.dp, hb.all.dp, hz.1, hz.2, k _ H (Same.refl H) (.bl _)⟩
  · cases hg
theorem os_cmpI (p : Int → Int → Bool) : OpS K (rI0 fun i j => .bl (p i j)) (cmpI p) := by
  intro S H x y a b d Q hs ha hb hg k
  cases a <;> cases b <;> simp only [cmpI, reduceCtorEq] at hg
  case int i j =>
    cases hg
    have e1 := ha.int; have e2 := hb.int
    subst e1 e2
    exact ⟨i, j, rfl, rfl, k _ H (Same.refl H) (.bl _)⟩
theorem isNone_iff {d : D} : isNone d = true ↔ d = .none := by cases d <;> simp [isNone]
theorem DpT.dec {v : V} {d : D} (h : DpT K S H v d) : decide (v = .non) = isNone d := by
  by_cases e : d = .none
  · rw [isNone_iff.mpr e, decide_eq_true_iff]; exact h.non_iff.mpr e
  · have : isNone d = false := by
      cases q : isNone d with
      | false => rfl
      | true => exact absurd (isNone_iff.mp q) e
    rw [this, decide_eq_false_iff_not]
    exact fun z => e (h.non_iff.mp z)
theorem os_isN : OpS K (fun x y H Q => y = .non ∧ Q (.bl (decide (x = .non))) H) isND := by
  intro S H x y a b d Q hs ha hb hg k
  unfold isND at hg
  split at hg
  · rename_i hz
    cases hg
    refine ⟨hb.non_iff.mpr (isNone_iff.mp hz), ?_⟩
    rw [ha.dec]
    exact k _ H (Same.refl H) (.bl _)
  · cases hg
theorem os_notN : OpS K (fun x y H Q => y = .non ∧ Q (.bl (!decide (x = .non))) H) notND := by
  intro S H x y a b d Q hs ha hb hg k
  unfold notND at hg
  split at hg
  · rename_i hz
    cases hg
    refine ⟨hb.non_iff.mpr (isNone_iff.mp hz), ?_⟩
    rw [ha.dec]
    exact k _ H (Same.refl H) (.bl _)
  · cases hg
end

/-! ### tests -/
section
variable {X : Cx} {K : PySem.W.Frag} {a b c e : Expr} {rest : List Expr} {pos : Pos} {fa fb : Rho → Option D} {ba bb : Rho → Option Bool}
def andB (x y : Rho → Option Bool) : Rho → Option Bool := fun ρ => (x ρ).bind fun c => if c = true then y ρ else some false
def orB (x y : Rho → Option Bool) : Rho → Option Bool := fun ρ => (x ρ).bind fun c => if c = true then some true else y ρ
def notB (x : Rho → Option Bool) : Rho → Option Bool := fun ρ => (x ρ).map fun c => !c
theorem gt_val (h : PE X e (tT K fa)) (he : ∀ whole, isTrue e X.env whole = (do let v ← whole; standAt e.pos; holding [v] (truthy v)) := by intro _; rfl) : PT X e (tB K (tst fa)) :=
  pt_w (pt_val h he) fun σ H Q ⟨S, ρ, d, h1, h2, h3⟩ => ⟨S, ρ, _, h1, tst_some h2, fun v H' e r => by
    have := r.bool; subst this; exact ⟨d, rfl, h3 H' e⟩⟩
/-- truth of anything -/
def truD : D → Option Bool
  | .none => some false
  | .bool b => some b
  | .int i => some (i != 0)
  | .str x => if x.length ≤ sizeLine then some ((x.length : Int) != 0) else none
  | .list xs => some (!xs.isEmpty)
  | .tuple xs => some (!xs.isEmpty)
  | _ => none
def tru (f : Rho → Option D) : Rho → Option Bool := fun ρ => (f ρ).bind truD
theorem RpAll.empty {H : Hp} {vs : List V} {ds : List D} (r : RpAll K H vs ds) : vs.isEmpty = ds.isEmpty := by cases r <;> rfl
theorem gt_tru {fa : Rho → Option D} (h : PE X e (tT X.K fa)) (he : ∀ whole, isTrue e X.env whole = (do let v ← whole; standAt e.pos; holding [v] (truthy v)) := by intro _; rfl) : PT X e (tB X.K (tru fa)) :=
  pt_w (pt_truth h he) fun σ H Q ⟨S, ρ, d, h1, h2, h3⟩ => by
    obtain ⟨z, h4, h5⟩ := Option.bind_eq_some_iff.mp h2
    refine ⟨S, ρ, _, h1, h4, fun v H' e r => ⟨d, ?_, h3 H' e⟩⟩
    cases z <;> simp only [truD, reduceCtorEq] at h5
    case none => have := r.non_iff.mpr rfl; subst this; cases h5; rfl
    case bool => have := r.bool; subst this; cases h5; rfl
    case int => have := r.int; subst this; cases h5; rfl
    case str =>
      have := r.str; subst this
      split at h5
      · cases h5; exact ⟨by assumption, rfl⟩
      · cases h5
    case list =>
      obtain ⟨p, vs, rfl, hp, zp, rp⟩ := r.list
      cases h5
      exact .inl ⟨vs, SqL.of hp, by rw [rp.empty]⟩
    case tuple =>
      obtain ⟨p, vs, rfl, hp, zp, rp⟩ := r.tuple
      cases h5
      exact .inr (.inl ⟨vs, hp, by rw [rp.empty]⟩)
theorem gt_not (ha : PT X a (tB K ba)) : PT X (.UnaryOp .Not a pos) (tB K (notB ba)) := pt_w (pt_not ha) fun σ H Q ⟨S, ρ, d, h1, h2, h3⟩ => by
  obtain ⟨c, h4, h5⟩ := Option.map_eq_some_iff.mp h2
  exact ⟨S, ρ, c, h1, h4, fun H' e => by show Q (!c) H'; rw [h5]; exact h3 H' e⟩
theorem gw_and1 (ha : PT X a (tB K ba)) : PW X (.BoolOp .And [a] pos) (tB K ba) := pw_and1 ha
theorem gw_or1 (ha : PT X a (tB K ba)) : PW X (.BoolOp .Or [a] pos) (tB K ba) := pw_or1 ha
theorem tAnd_of : ∀ σ H Q, tB K (andB ba bb) σ H Q → tAnd (tB K ba) (tB K bb) σ H Q := fun σ H Q ⟨S, ρ, d, h1, h2, h3⟩ => by
  obtain ⟨c, h4, h5⟩ := Option.bind_eq_some_iff.mp h2
  refine ⟨S, ρ, c, h1, h4, fun H' e => ?_⟩
  cases c with
  | true => exact ⟨S, ρ, d, h1.mono e, h5, fun H2 e2 => h3 H2 (e.trans e2)⟩
  | false => cases h5; exact h3 H' e
theorem tOr_of : ∀ σ H Q, tB K (orB ba bb) σ H Q → tOr (tB K ba) (tB K bb) σ H Q := fun σ H Q ⟨S, ρ, d, h1, h2, h3⟩ => by
  obtain ⟨c, h4, h5⟩ := Option.bind_eq_some_iff.mp h2
  refine ⟨S, ρ, c, h1, h4, fun H' e => ?_⟩
  cases c with
  | false => exact ⟨S, ρ, d, h1.mono e, h5, fun H2 e2 => h3 H2 (e.trans e2)⟩
  | true => cases h5; exact h3 H' e
theorem gw_and (ha : PT X a (tB K ba)) (hb : PW X (.BoolOp .And (b :: rest) pos) (tB K bb)) : PW X (.BoolOp .And (a :: b :: rest) pos) (tB K (andB ba bb)) := pw_w (pw_and ha hb) tAnd_of
theorem gw_or (ha : PT X a (tB K ba)) (hb : PW X (.BoolOp .Or (b :: rest) pos) (tB K bb)) : PW X (.BoolOp .Or (a :: b :: rest) pos) (tB K (orB ba bb)) := pw_w (pw_or ha hb) tOr_of
/-! ### as values -/
def andF (x y : Rho → Option D) : Rho → Option D := fun ρ => (tst x ρ).bind fun c => if c = true then y ρ else some (.bool false)
def orF (x y : Rho → Option D) : Rho → Option D := fun ρ => (tst x ρ).bind fun c => if c = true then some (.bool true) else y ρ
def notF (x : Rho → Option D) : Rho → Option D := fun ρ => (tst x ρ).map fun c => .bool (!c)
def ifF (t : Rho → Option Bool) (x y : Rho → Option D) : Rho → Option D := fun ρ => (t ρ).bind fun c => if c = true then x ρ else y ρ
theorem g_one {op} (h : PE X a (tE K fa)) : PE X (.BoolOp op [a] pos) (tE K fa) := pe_one h
theorem g_and (ha : PE X a (tT K fa)) (hb : PE X (.BoolOp .And (b :: rest) pos) (tE K fb)) : PE X (.BoolOp .And (a :: b :: rest) pos) (tE K (andF fa fb)) := pe_w (pe_and ha hb) fun σ H Q ⟨S, ρ, d, h1, h2, h3⟩ => by
  obtain ⟨c, h4, h5⟩ := Option.bind_eq_some_iff.mp h2
  refine ⟨S, ρ, _, h1, tst_some h4, fun v H' e r => ?_⟩
  have := r.bool
  subst this
  refine ⟨c, rfl, ?_⟩
  cases c with
  | true => exact ⟨S, ρ, d, h1.mono e, h5, fun v H2 e2 r2 => h3 v H2 (e.trans e2) r2⟩
  | false => cases h5; exact h3 _ H' e (.bl false)
theorem g_or (ha : PE X a (tT K fa)) (hb : PE X (.BoolOp .Or (b :: rest) pos) (tE K fb)) : PE X (.BoolOp .Or (a :: b :: rest) pos) (tE K (orF fa fb)) := pe_w (pe_or ha hb) fun σ H Q ⟨S, ρ, d, h1, h2, h3⟩ => by
  obtain ⟨c, h4, h5⟩ := Option.bind_eq_some_iff.mp h2
  refine ⟨S, ρ, _, h1, tst_some h4, fun v H' e r => ?_⟩
  have := r.bool
  subst this
  refine ⟨c, rfl, ?_⟩
  cases c with
  | false => exact ⟨S, ρ, d, h1.mono e, h5, fun v H2 e2 r2 => h3 v H2 (e.trans e2) r2⟩
  | true => cases h5; exact h3 _ H' e (.bl true)
theorem g_not (ha : PE X a (tT K fa)) : PE X (.UnaryOp .Not a pos) (tE K (notF fa)) := pe_w (pe_not ha) fun σ H Q ⟨S, ρ, d, h1, h2, h3⟩ => by
  obtain ⟨c, h4, h5⟩ := Option.map_eq_some_iff.mp h2
  refine ⟨S, ρ, _, h1, tst_some h4, fun v H' e r => ?_⟩
  have := r.bool
  subst this
  subst h5
  exact ⟨c, rfl, h3 _ H' e (.bl _)⟩
theorem g_if (hc : PT X c (tB K ba)) (ha : PE X a (tE K fa)) (hb : PE X b (tE K fb)) : PE X (.IfExp c a b pos) (tE K (ifF ba fa fb)) := pe_w (pe_ifExp hc ha hb) fun σ H Q ⟨S, ρ, d, h1, h2, h3⟩ => by
  obtain ⟨c, h4, h5⟩ := Option.bind_eq_some_iff.mp h2
  refine ⟨S, ρ, c, h1, h4, fun H' e => ?_⟩
  cases c with
  | true => exact ⟨S, ρ, d, h1.mono e, h5, fun v H2 e2 r2 => h3 v H2 (e.trans e2) r2⟩
  | false => exact ⟨S, ρ, d, h1.mono e, h5, fun v H2 e2 r2 => h3 v H2 (e.trans e2) r2⟩
theorem g_ifF (hc : PT X c (tB K ba)) (ha : PE X a (tF K fa)) (hb : PE X b (tF K fb)) : PE X (.IfExp c a b pos) (tF K (ifF ba fa fb)) := pe_w (pe_ifExp hc ha hb) fun σ H Q ⟨S, ρ, d, h1, h2, h3⟩ => by
  obtain ⟨c, h4, h5⟩ := Option.bind_eq_some_iff.mp h2
  refine ⟨S, ρ, c, h1, h4, fun H' e => ?_⟩
  cases c with
  | true => exact ⟨S, ρ, d, h1.mono e, h5, fun v H2 e2 ⟨ds, z, r2⟩ => h3 v H2 (e.trans e2) ⟨ds, z, r2.back e⟩⟩
  | false => exact ⟨S, ρ, d, h1.mono e, h5, fun v H2 e2 ⟨ds, z, r2⟩ => h3 v H2 (e.trans e2) ⟨ds, z, r2.back e⟩⟩
theorem g_un {op : UnaryOp} {r : V → Hp → VK → Prop} {g : D → Option D} (ho : UnR X (unaryOp op) r) (hr : ∀ (S : AS) (H : Hp) (x : V) (a d : D) (Q : VK), HidOk S H → DpT K S H x a → g a = some d → (∀ v H', Same H H' → Rp K (hide S H') v d → Q v H') → r x H Q)
    (ha : PE X a (tT K fa)) : PE X (.UnaryOp op a pos) (tE K (un g fa)) := pe_w (pe_un ho ha) fun σ H Q ⟨S, ρ, d, h1, h2, h3⟩ => by
  obtain ⟨z, h4, h5⟩ := un_some h2
  exact ⟨S, ρ, z, h1, h4, fun v H' e r => hr S H' v z d Q (h1.hid.mono e) r h5 fun v H2 e2 r2 => h3 v H2 (e.trans e2) r2⟩
theorem g_neg (ha : PE X a (tT K fa)) : PE X (.UnaryOp .USub a pos) (tE K (un negD fa)) := g_un un_neg (fun S H x a d Q hs hx hg k => by
  cases a <;> simp only [negD, reduceCtorEq] at hg
  cases hg
  have := hx.int
  subst this
  exact ⟨_, rfl, k _ H (Same.refl H) (.int _)⟩) ha
/-! ### chains a < b < c -/
def chainF (g g' : D → D → Option D) (fa fb fc : Rho → Option D) : Rho → Option D := fun ρ => (fa ρ).bind fun a => (fb ρ).bind fun b => (g a b).bind fun z => (isB z).bind fun k => if k = true then (fc ρ).bind fun c => g' b c else some (.bool false)
theorem tChain_of {r r' : R2} {g g' : D → D → Option D} {fa fb fc : Rho → Option D} (hr : OpS K r g) (hr' : OpS K r' g') : ∀ σ H Q, tE K (chainF g g' fa fb fc) σ H Q → tChain r r' (tT K fa) (tT K fb) (tT K fc) σ H Q := fun σ H Q ⟨S, ρ, d, h1, h2, h3⟩ => by
  unfold chainF at h2
  obtain ⟨x, ha, q1⟩ := Option.bind_eq_some_iff.mp h2
  obtain ⟨y, hb, q2⟩ := Option.bind_eq_some_iff.mp q1
  obtain ⟨z, hz, q3⟩ := Option.bind_eq_some_iff.mp q2
  obtain ⟨k, hk, q4⟩ := Option.bind_eq_some_iff.mp q3
  clear h2 q1 q2 q3
  have ez : z = .bool k := by cases z <;> simp [isB] at hk; rw [hk]
  subst ez
  refine ⟨S, ρ, x, h1, ha, fun v H1 e1 r1 => ⟨S, ρ, y, h1.mono e1, hb, fun w H2 e2 r2 => hr S H2 v w x y _ _ ((h1.hid.mono e1).mono e2) (r1.mono e2) r2 hz fun u H3 e3 r3 => ?_⟩⟩
  cases r3
  refine ⟨_, rfl, ?_⟩
  cases k with
  | false =>
    rw [if_neg (by decide)] at q4
    cases q4
    show Q (.bl false) H3
    exact h3 _ H3 ((e1.trans e2).trans e3) (.bl false)
  | true =>
    rw [if_pos rfl] at q4
    obtain ⟨c, hc, q5⟩ := Option.bind_eq_some_iff.mp q4
    show tT K fc σ H3 _
    exact ⟨S, ρ, c, ((h1.mono e1).mono e2).mono e3, hc, fun t H4 e4 r4 => hr' S H4 w t y c d _ ((((h1.hid.mono e1).mono e2).mono e3).mono e4) (r2.mono (e3.trans e4)) r4 q5 fun u H5 e5 r5 => h3 u H5 ((((e1.trans e2).trans e3).trans e4).trans e5) r5⟩
theorem g_chain {a b c : Expr} {op op' : CmpOp} {r r' : R2} {g g' : D → D → Option D} {fa fb fc : Rho → Option D} (ho : OpR X (compareOp op) r) (hr : OpS K r g) (ho' : OpR X (compareOp op') r') (hr' : OpS K r' g') (ha : PE X a (tT K fa)) (hb : PE X b (tT K fb)) (hc : PE X c (tT K fc))
    (hm : lastMarks [op, op'] [b, c] = false := by with_unfolding_all rfl) : PE X (.Compare a [op, op'] [b, c] pos) (tE K (chainF g g' fa fb fc)) := pe_w (pe_chain ho ho' ha hb hc hm) (tChain_of hr hr')
theorem gt_chain {a b c : Expr} {op op' : CmpOp} {r r' : R2} {g g' : D → D → Option D} {fa fb fc : Rho → Option D} (ho : OpR X (compareOp op) r) (hr : OpS K r g) (ho' : OpR X (compareOp op') r') (hr' : OpS K r' g') (ha : PE X a (tT K fa)) (hb : PE X b (tT K fb)) (hc : PE X c (tT K fc))
    (hm : lastMarks [op, op'] [b, c] = false := by with_unfolding_all rfl) : PT X (.Compare a [op, op'] [b, c] pos) (tB K (tst (chainF g g' fa fb fc))) :=
  pt_w (pt_chain ho ho' ha hb hc hm) fun σ H Q ⟨S, ρ, d, h1, h2, h3⟩ => tChain_of hr hr' σ H _ ⟨S, ρ, _, h1, tst_some h2, fun v H' e r => by
    cases r; exact ⟨d, rfl, h3 H' e⟩⟩
end
end PF

set_option Elab.async false
set_option linter.all false
set_option maxRecDepth 100000
/-! PF3: argument lists, displays, subscripts, slices, calls of built-ins and of defs. -/
namespace PF
open PySem PySem.Spec PyProof.Rows L2
variable [Tabs]

/-! ### argument lists -/
def argsF : List (Rho → Option D) → Rho → Option (List D)
  | [], _ => some []
  | f :: fs, ρ => (f ρ).bind fun d => (argsF fs ρ).bind fun ds => some (d :: ds)
def aT (K : PySem.W.Frag) (fs : List (Rho → Option D)) : TA := fun σ H Q => ∃ S ρ ds, EOk K S H σ ρ ∧ argsF fs ρ = some ds ∧ ∀ vs H', Same H H' → AllT K S H' vs ds → Q vs H'
def aE (K : PySem.W.Frag) (fs : List (Rho → Option D)) : TA := fun σ H Q => ∃ S ρ ds, EOk K S H σ ρ ∧ argsF fs ρ = some ds ∧ ∀ vs H', Same H H' → RpAll K (hide S H') vs ds → Q vs H'
theorem AllT.mono {K : PySem.W.Frag} {S : AS} {H H' : Hp} (e : Same H H') : ∀ {vs : List V} {ds : List D}, AllT K S H vs ds → AllT K S H' vs ds
  | _, _, .nil => .nil
  | _, _, .cons h r => .cons (DpT.mono e h) (AllT.mono e r)
section
variable {X : Cx} {K : PySem.W.Frag} {e : Expr} {es : List Expr} {f : Rho → Option D} {fs : List (Rho → Option D)}
theorem ga_nil : PA X [] (aT K []) := pa_w pa_nil fun σ H Q ⟨S, ρ, ds, h1, h2, h3⟩ => by
  cases h2; exact h3 [] H (Same.refl H) .nil
theorem ga_cons (h : PE X e (tT K f)) (hr : PA X es (aT K fs)) (hs : starEach (e :: es) X.env = (false, eval e X.env) :: starEach es X.env := by rfl) : PA X (e :: es) (aT K (f :: fs)) := pa_w (pa_cons h hr hs) fun σ H Q ⟨S, ρ, ds, h1, h2, h3⟩ => by
  obtain ⟨d, h4, h5⟩ := Option.bind_eq_some_iff.mp h2
  obtain ⟨ds', h6, h7⟩ := Option.bind_eq_some_iff.mp h5
  cases h7
  exact ⟨S, ρ, d, h1, h4, fun v H1 e1 r1 => ⟨S, ρ, ds', h1.mono e1, h6, fun vs H2 e2 r2 => h3 _ H2 (e1.trans e2) (.cons (r1.mono e2) r2)⟩⟩
theorem gae_nil : PA X [] (aE K []) := pa_w pa_nil fun σ H Q ⟨S, ρ, ds, h1, h2, h3⟩ => by
  cases h2; exact h3 [] H (Same.refl H) .nil
theorem gae_cons (h : PE X e (tE K f)) (hr : PA X es (aE K fs)) (hs : starEach (e :: es) X.env = (false, eval e X.env) :: starEach es X.env := by rfl) : PA X (e :: es) (aE K (f :: fs)) := pa_w (pa_cons h hr hs) fun σ H Q ⟨S, ρ, ds, h1, h2, h3⟩ => by
  obtain ⟨d, h4, h5⟩ := Option.bind_eq_some_iff.mp h2
  obtain ⟨ds', h6, h7⟩ := Option.bind_eq_some_iff.mp h5
  cases h7
  exact ⟨S, ρ, d, h1, h4, fun v H1 e1 r1 => ⟨S, ρ, ds', h1.mono e1, h6, fun vs H2 e2 r2 => h3 _ H2 (e1.trans e2) (.cons (Rp.mono (hide_mono e2) r1) r2)⟩⟩
theorem argsF_length {ρ : Rho} : ∀ {fs : List (Rho → Option D)} {ds : List D}, argsF fs ρ = some ds → ds.length = fs.length
  | [], _, h => by cases h; rfl
  | f :: fs, ds, h => by
    obtain ⟨d, h4, h5⟩ := Option.bind_eq_some_iff.mp h
    obtain ⟨ds', h6, h7⟩ := Option.bind_eq_some_iff.mp h5
    cases h7
    simp [argsF_length h6]
/-! ### displays -/
def tupF (fs : List (Rho → Option D)) : Rho → Option D := fun ρ => (argsF fs ρ).map .tuple
def lstF (fs : List (Rho → Option D)) : Rho → Option D := fun ρ => (argsF fs ρ).map .list
theorem g_tup {x1} {pos : Pos} (h : PA X es (aE K fs)) (hz : decide (fs.length ≤ sizeLine) = true) : PE X (.Tuple es x1 pos) (tE K (tupF fs)) := pe_w (pe_tup h) fun σ H Q ⟨S, ρ, d, h1, h2, h3⟩ => by
  obtain ⟨ds, h4, h5⟩ := Option.map_eq_some_iff.mp h2
  subst h5
  refine ⟨S, ρ, ds, h1, h4, fun vs H' e r => ⟨?_, fun p hp => h3 _ _ (e.trans (same_upd hp)) (Rp.newTup (h1.hid.mono e) hp (by rw [r.length, argsF_length h4]; exact of_decide_eq_true hz) r)⟩⟩
  rw [r.length, argsF_length h4]
  exact of_decide_eq_true hz
theorem g_lst {pos : Pos} (h : PA X es (aE K fs)) (hz : decide (fs.length ≤ sizeLine) = true) : PE X (.List es pos) (tF K (lstF fs)) := pe_w (pe_lst h) fun σ H Q ⟨S, ρ, d, h1, h2, h3⟩ => by
  obtain ⟨ds, h4, h5⟩ := Option.map_eq_some_iff.mp h2
  subst h5
  refine ⟨S, ρ, ds, h1, h4, fun vs H' e r => ⟨?_, fun p hp => h3 _ _ (e.trans (same_upd hp)) ⟨ds, rfl, DpF.new e hp (by rw [r.length, argsF_length h4]; exact of_decide_eq_true hz) r⟩⟩⟩
  rw [r.length, argsF_length h4]
  exact of_decide_eq_true hz

/-! ### subscripts -/
def atD (ds : List D) (i : Int) : Option D := atI ds i
def ixD : D → D → Option D
  | .list ds, .int i => atD ds i
  | .tuple ds, .int i => atD ds i
  | .str z, .int i => if z.length ≤ sizeLine then (atI z.cps.toList i).map fun c => .str ⟨#[c]⟩ else none
  | _, _ => none
theorem atI_rp {H : Hp} {vs : List V} {ds : List D} {i : Int} {d : D} (r : RpAll K H vs ds) (h : atI ds i = some d) : ∃ v, atI vs i = some v ∧ Rp K H v d := by
  unfold atI at h ⊢
  rw [r.length]
  obtain ⟨j, h1, h2⟩ := Option.bind_eq_some_iff.mp h
  obtain ⟨v, h3, h4⟩ := r.get h2
  exact ⟨v, by rw [h1]; exact h3, h4⟩
theorem os_ix : OpS K (rIx K) ixD := by
  intro S H x y a b d Q hs ha hb hg k
  cases a <;> cases b <;> simp only [ixD, reduceCtorEq] at hg
  case list.int ds i =>
    obtain ⟨p, vs, rfl, hp, zp, rp⟩ := ha.list
    have e2 := hb.int
    subst e2
    obtain ⟨v, h1, h2⟩ := atI_rp rp hg
    exact .inl ⟨p, vs, i, v, rfl, rfl, SqL.of hp, h1, k _ H (Same.refl H) h2⟩
  case tuple.int ds i =>
    obtain ⟨p, vs, rfl, hp, zp, rp⟩ := ha.tuple
    have e2 := hb.int
    subst e2
    obtain ⟨v, h1, h2⟩ := atI_rp rp hg
    exact .inr (.inl ⟨p, vs, i, v, rfl, rfl, hp, h1, k _ H (Same.refl H) h2⟩)
  case str.int z i =>
    split at hg
    · rename_i hz
      have e1 := ha.str; have e2 := hb.int
      subst e1 e2
      obtain ⟨c, h1, h2⟩ := Option.map_eq_some_iff.mp hg
      subst h2
      exact .inr (.inr ⟨z, i, c, rfl, rfl, hz, h1, k _ H (Same.refl H) (.str _)⟩)
    · cases hg
theorem g_ix {a b : Expr} {fa fb : Rho → Option D} {pos : Pos} (ha : PE X a (tT X.K fa)) (hb : PE X b (tT X.K fb)) (hs : PlainIx b) : PE X (.Subscript a b pos) (tE X.K (bin ixD fa fb)) := pe_w (pe_ix ix_seq ha hb hs) (tOp_of os_ix)

/-! ### slices -/
def tO (K : PySem.W.Frag) (f : Rho → Option (Option Int)) : TO := fun σ H Q => ∃ S ρ o, EOk K S H σ ρ ∧ f ρ = some o ∧ ∀ H', Same H H' → Q o H'
def intD : D → Option Int
  | .int i => some i
  | _ => none
def partF (f : Rho → Option D) : Rho → Option (Option Int) := fun ρ => (f ρ).bind fun d => (intD d).map some
def noPart : Rho → Option (Option Int) := fun _ => some none
theorem go_none : PO X none (tO K noPart) := ⟨fun pins s σ H Q I ⟨S, ρ, o, h1, h2, h3⟩ => po_none.run pins s σ H Q I (by cases h2; exact h3 H (Same.refl H))⟩
theorem go_some (h : PE X e (tT K f)) : PO X (some e) (tO K (partF f)) := ⟨fun pins s σ H Q I ⟨S, ρ, o, h1, h2, h3⟩ => (po_some h).run pins s σ H Q I (by
  obtain ⟨d, h4, h5⟩ := Option.bind_eq_some_iff.mp h2
  obtain ⟨i, h6, h7⟩ := Option.map_eq_some_iff.mp h5
  subst h7
  refine ⟨S, ρ, d, h1, h4, fun v H' e r => ⟨i, ?_, h3 H' e⟩⟩
  cases d <;> simp only [intD, reduceCtorEq] at h6
  cases h6
  exact r.int)⟩
def cutD (ds : List D) (lo hi : Option Int) : List D := (ds.drop (HT.sIx ds.length 0 lo)).take (HT.sIx ds.length ds.length hi - HT.sIx ds.length 0 lo)
theorem cut_rp {H : Hp} {vs : List V} {ds : List D} {lo hi : Option Int} (r : RpAll K H vs ds) : RpAll K H (cutV vs lo hi) (cutD ds lo hi) := by
  unfold cutV cutD
  rw [r.length]
  exact (r.drop _).take _
def slF (g : D → Option Int → Option Int → Option D) (f : Rho → Option D) (l h : Rho → Option (Option Int)) : Rho → Option D := fun ρ => (f ρ).bind fun a => (l ρ).bind fun lo => (h ρ).bind fun hi => g a lo hi
def slT : D → Option Int → Option Int → Option D
  | .tuple ds, lo, hi => some (.tuple (cutD ds lo hi))
  | .str z, lo, hi => if z.length ≤ sizeLine then some (.str (cutS z lo hi)) else none
  | _, _, _ => none
def slL : D → Option Int → Option Int → Option D
  | .list ds, lo, hi => some (.list (cutD ds lo hi))
  | _, _, _ => none
theorem sIx_cut {α : Type} (xs : List α) (lo hi : Option Int) (h : HT.sIx xs.length 0 lo = 0 ∧ HT.sIx xs.length xs.length hi = xs.length) : (xs.drop (HT.sIx xs.length 0 lo)).take (HT.sIx xs.length xs.length hi - HT.sIx xs.length 0 lo) = xs := by
  rw [h.1, h.2]; simp
theorem g_slT {fl fh : Rho → Option (Option Int)} {lo hi : Option Expr} {p2 pos : Pos} (he : PE X e (tT X.K f)) (hl : PO X lo (tO X.K fl)) (hh : PO X hi (tO X.K fh)) : PE X (.Subscript e (.Slice lo hi none p2) pos) (tE X.K (slF slT f fl fh)) :=
  pe_w (pe_slice (sl_tupA.or sl_str) he hl hh) fun σ H Q ⟨S, ρ, d, h1, h2, h3⟩ => by
    obtain ⟨a, q1, h4⟩ := Option.bind_eq_some_iff.mp h2
    obtain ⟨lo', q2, h5⟩ := Option.bind_eq_some_iff.mp h4
    obtain ⟨hi', q3, h6⟩ := Option.bind_eq_some_iff.mp h5
    refine ⟨S, ρ, a, h1, q1, fun v H1 e1 r1 => ⟨S, ρ, lo', h1.mono e1, q2, fun H2 e2 => ⟨S, ρ, hi', (h1.mono e1).mono e2, q3, fun H3 e3 => ?_⟩⟩⟩
    have e13 := e2.trans e3
    have hs := ((h1.hid.mono e1).mono e2).mono e3
    cases a <;> simp only [slT, reduceCtorEq] at h6
    case tuple ds =>
      cases h6
      obtain ⟨p, vs, rfl, hp, zp, rp⟩ := (r1.mono e13).tuple
      refine .inl ⟨p, vs, rfl, hp, fun hw => h3 _ H3 (e1.trans e13) (.tup (sqT_hide hs hp) zp ?_), fun _ q no => h3 _ _ ((e1.trans e13).trans (same_upd no)) (Rp.newTup hs no (Nat.le_trans (cutV_length _ _ _) zp) (cut_rp rp))⟩
      have ec : cutD ds lo' hi' = ds := by
        unfold cutD
        rw [rp.length] at hw
        exact sIx_cut ds lo' hi' hw
      rw [ec]; exact rp
    case str z =>
      split at h6
      · rename_i hz
        cases h6
        have e1' := r1.str
        subst e1'
        exact .inr ⟨z, rfl, hz, h3 _ H3 (e1.trans e13) (.str _)⟩
      · cases h6
theorem g_slL {fl fh : Rho → Option (Option Int)} {lo hi : Option Expr} {p2 pos : Pos} (he : PE X e (tT X.K f)) (hl : PO X lo (tO X.K fl)) (hh : PO X hi (tO X.K fh)) : PE X (.Subscript e (.Slice lo hi none p2) pos) (tF X.K (slF slL f fl fh)) :=
  pe_w (pe_slice sl_list he hl hh) fun σ H Q ⟨S, ρ, d, h1, h2, h3⟩ => by
    obtain ⟨a, q1, h4⟩ := Option.bind_eq_some_iff.mp h2
    obtain ⟨lo', q2, h5⟩ := Option.bind_eq_some_iff.mp h4
    obtain ⟨hi', q3, h6⟩ := Option.bind_eq_some_iff.mp h5
    refine ⟨S, ρ, a, h1, q1, fun v H1 e1 r1 => ⟨S, ρ, lo', h1.mono e1, q2, fun H2 e2 => ⟨S, ρ, hi', (h1.mono e1).mono e2, q3, fun H3 e3 => ?_⟩⟩⟩
    have e13 := e2.trans e3
    cases a <;> simp only [slL, reduceCtorEq] at h6
    case list ds =>
      cases h6
      obtain ⟨p, vs, rfl, hp, zp, rp⟩ := (r1.mono e13).list
      exact ⟨p, vs, rfl, SqL.of hp, fun q no => h3 _ _ ((e1.trans e13).trans (same_upd no)) ⟨_, rfl, DpF.new (e1.trans e13) no (Nat.le_trans (cutV_length _ _ _) zp) (cut_rp rp)⟩⟩

/-! ### calls by values -/
def app (g : List D → Option D) (fs : List (Rho → Option D)) : Rho → Option D := fun ρ => (argsF fs ρ).bind g
def CallS (K : PySem.W.Frag) (r : List V → Hp → VK → Prop) (g : List D → Option D) : Prop := ∀ (S : AS) (H : Hp) (vs : List V) (ds : List D) (d : D) (Q : VK), HidOk S H → AllT K S H vs ds → g ds = some d → (∀ v H', Same H H' → Rp K (hide S H') v d → Q v H') → r vs H Q
def CallF (K : PySem.W.Frag) (r : List V → Hp → VK → Prop) (g : List D → Option D) : Prop := ∀ (S : AS) (H : Hp) (vs : List V) (ds : List D) (d : D) (Q : VK), HidOk S H → AllT K S H vs ds → g ds = some d → (∀ v H', Same H H' → (∃ zs, d = .list zs ∧ DpF K S H H' v zs) → Q v H') → r vs H Q
theorem tCB_of {r : List V → Hp → VK → Prop} {g : List D → Option D} (hr : CallS K r g) : ∀ σ H Q, tE K (app g fs) σ H Q → tCB r (aT K fs) σ H Q := fun σ H Q ⟨S, ρ, d, h1, h2, h3⟩ => by
  obtain ⟨ds, h4, h5⟩ := Option.bind_eq_some_iff.mp h2
  exact ⟨S, ρ, ds, h1, h4, fun vs H' e r => hr S H' vs ds d Q (h1.hid.mono e) r h5 fun v H2 e2 r2 => h3 v H2 (e.trans e2) r2⟩
theorem tCBF_of {r : List V → Hp → VK → Prop} {g : List D → Option D} (hr : CallF K r g) : ∀ σ H Q, tF K (app g fs) σ H Q → tCB r (aT K fs) σ H Q := fun σ H Q ⟨S, ρ, d, h1, h2, h3⟩ => by
  obtain ⟨ds, h4, h5⟩ := Option.bind_eq_some_iff.mp h2
  exact ⟨S, ρ, ds, h1, h4, fun vs H' e r => hr S H' vs ds d Q (h1.hid.mono e) r h5 fun v H2 e2 ⟨zs, ez, r2⟩ => h3 v H2 (e.trans e2) ⟨zs, ez, r2.back e⟩⟩
variable {x : Str} {p pos : Pos} {id T : String} {r : List V → Hp → VK → Prop} {g : List D → Option D}
theorem g_callB (hc : CallR X (.builtin id) r) (hr : CallS K r g) (hg : Gl X x) (hm : X.mg x = none) (hv : bootBuiltins x = some (.builtin id)) (ha : PA X (e :: es) (aT K fs)) (hn : x ≠ "__name__" := by decide) (hdb : (x == ("__debug__" : Str)) = false := by decide)
    (he : starEach (e :: es) X.env = (false, eval e X.env) :: starEach es X.env := by rfl) (hpl : (backTo pos (starEach es X.env)).any (·.1) = false := by rfl) : PE X (.Call (.Name x p) (e :: es) [] pos) (tE K (app g fs)) := pe_w (pe_callB hc hg hm hv ha hn hdb he hpl) (tCB_of hr)
theorem g_callBF (hc : CallR X (.builtin id) r) (hr : CallF K r g) (hg : Gl X x) (hm : X.mg x = none) (hv : bootBuiltins x = some (.builtin id)) (ha : PA X (e :: es) (aT K fs)) (hn : x ≠ "__name__" := by decide) (hdb : (x == ("__debug__" : Str)) = false := by decide)
    (he : starEach (e :: es) X.env = (false, eval e X.env) :: starEach es X.env := by rfl) (hpl : (backTo pos (starEach es X.env)).any (·.1) = false := by rfl) : PE X (.Call (.Name x p) (e :: es) [] pos) (tF K (app g fs)) := pe_w (pe_callB hc hg hm hv ha hn hdb he hpl) (tCBF_of hr)
theorem g_callTy (hc : CallR X (.type T) r) (hr : CallS K r g) (hg : Gl X x) (hm : X.mg x = none) (hv : bootBuiltins x = some (.type T)) (ha : PA X (e :: es) (aT K fs)) (hn : x ≠ "__name__" := by decide) (hdb : (x == ("__debug__" : Str)) = false := by decide)
    (he : starEach (e :: es) X.env = (false, eval e X.env) :: starEach es X.env := by rfl) (hpl : (backTo pos (starEach es X.env)).any (·.1) = false := by rfl) : PE X (.Call (.Name x p) (e :: es) [] pos) (tE K (app g fs)) := pe_w (pe_callTy hc hg hm hv ha hn hdb he hpl) (tCB_of hr)
theorem g_callTyF (hc : CallR X (.type T) r) (hr : CallF K r g) (hg : Gl X x) (hm : X.mg x = none) (hv : bootBuiltins x = some (.type T)) (ha : PA X (e :: es) (aT K fs)) (hn : x ≠ "__name__" := by decide) (hdb : (x == ("__debug__" : Str)) = false := by decide)
    (he : starEach (e :: es) X.env = (false, eval e X.env) :: starEach es X.env := by rfl) (hpl : (backTo pos (starEach es X.env)).any (·.1) = false := by rfl) : PE X (.Call (.Name x p) (e :: es) [] pos) (tF K (app g fs)) := pe_w (pe_callTy hc hg hm hv ha hn hdb he hpl) (tCBF_of hr)

theorem AllT.one {S : AS} {H : Hp} {vs : List V} {d : D} (h : AllT K S H vs [d]) : ∃ v, vs = [v] ∧ DpT K S H v d := by
  cases h with
  | cons h t => cases t; exact ⟨_, rfl, h⟩
theorem AllT.two {S : AS} {H : Hp} {vs : List V} {d e : D} (h : AllT K S H vs [d, e]) : ∃ v w, vs = [v, w] ∧ DpT K S H v d ∧ DpT K S H w e := by
  cases h with
  | cons h t =>
    cases t with
    | cons h' t' => cases t'; exact ⟨_, _, rfl, h, h'⟩
/-! len -/
def lenD : List D → Option D
  | [.list ds] => some (.int ds.length)
  | [.tuple ds] => some (.int ds.length)
  | [.str z] => if z.length ≤ sizeLine then some (.int z.length) else none
  | _ => none
theorem cs_len : CallS K (fun xs H Q => ∃ x n, xs = [x] ∧ LenV K x H n ∧ Q (.int n) H) lenD := by
  intro S H vs ds d Q hs ha hg k
  unfold lenD at hg
  split at hg
  · cases hg
    obtain ⟨v, rfl, r⟩ := ha.one
    obtain ⟨p, ws, rfl, hp, zp, rp⟩ := r.list
    exact ⟨_, _, rfl, .inl ⟨ws, SqL.of hp, rfl⟩, by rw [rp.length]; exact k _ H (Same.refl H) (.int _)⟩
  · cases hg
    obtain ⟨v, rfl, r⟩ := ha.one
    obtain ⟨p, ws, rfl, hp, zp, rp⟩ := r.tuple
    exact ⟨_, _, rfl, .inr ⟨ws, hp, rfl⟩, by rw [rp.length]; exact k _ H (Same.refl H) (.int _)⟩
  · split at hg
    · rename_i hz
      cases hg
      obtain ⟨v, rfl, r⟩ := ha.one
      have := r.str
      subst this
      exact ⟨_, _, rfl, ⟨hz, rfl⟩, k _ H (Same.refl H) (.int _)⟩
    · cases hg
  · cases hg
/-! abs, int, min, max of two -/
def absD : List D → Option D
  | [.int i] => some (.int (if i < 0 then -i else i))
  | _ => none
theorem cs_abs : CallS K (fun xs H Q => ∃ i, xs = [.int i] ∧ Q (.int (if i < 0 then -i else i)) H) absD := by
  intro S H vs ds d Q hs ha hg k
  unfold absD at hg
  split at hg
  · cases hg
    obtain ⟨v, rfl, r⟩ := ha.one
    have := r.int
    subst this
    exact ⟨_, rfl, k _ H (Same.refl H) (.int _)⟩
  · cases hg
def toIntD : List D → Option D
  | [.int i] => some (.int i)
  | [.bool b] => some (.int (if b then 1 else 0))
  | _ => none
theorem cs_int : CallS K (fun xs H Q => (∃ i, xs = [.int i] ∧ Q (.int i) H) ∨ ∃ k, xs = [.bl k] ∧ Q (.int (if k then 1 else 0)) H) toIntD := by
  intro S H vs ds d Q hs ha hg k
  unfold toIntD at hg
  split at hg
  · cases hg
    obtain ⟨v, rfl, r⟩ := ha.one
    have := r.int
    subst this
    exact .inl ⟨_, rfl, k _ H (Same.refl H) (.int _)⟩
  · cases hg
    obtain ⟨v, rfl, r⟩ := ha.one
    have := r.bool
    subst this
    exact .inr ⟨_, rfl, k _ H (Same.refl H) (.int _)⟩
  · cases hg
def max2D : List D → Option D
  | [.int i, .int j] => some (.int (if j > i then j else i))
  | _ => none
def min2D : List D → Option D
  | [.int i, .int j] => some (.int (if j < i then j else i))
  | _ => none
theorem cs_max2 : CallS K (fun xs H Q => ∃ i j, xs = [.int i, .int j] ∧ Q (.int (if j > i then j else i)) H) max2D := by
  intro S H vs ds d Q hs ha hg k
  unfold max2D at hg
  split at hg
  · cases hg
    obtain ⟨v, w, rfl, r, r'⟩ := ha.two
    have e1 := r.int; have e2 := r'.int
    subst e1 e2
    exact ⟨_, _, rfl, k _ H (Same.refl H) (.int _)⟩
  · cases hg
theorem cs_min2 : CallS K (fun xs H Q => ∃ i j, xs = [.int i, .int j] ∧ Q (.int (if j < i then j else i)) H) min2D := by
  intro S H vs ds d Q hs ha hg k
  unfold min2D at hg
  split at hg
  · cases hg
    obtain ⟨v, w, rfl, r, r'⟩ := ha.two
    have e1 := r.int; have e2 := r'.int
    subst e1 e2
    exact ⟨_, _, rfl, k _ H (Same.refl H) (.int _)⟩
  · cases hg
def gcdD : List D → Option D
  | [.int i, .int j] => some (.int ((Nat.gcd i.natAbs j.natAbs : Nat) : Int))
  | _ => none
theorem cs_gcd : CallS K rGcd gcdD := by
  intro S H vs ds d Q hs ha hg k
  unfold gcdD at hg
  split at hg
  · cases hg
    obtain ⟨v, w, rfl, r, r'⟩ := ha.two
    have e1 := r.int; have e2 := r'.int
    subst e1 e2
    exact ⟨_, _, rfl, k _ H (Same.refl H) (.int _)⟩
  · cases hg
/-! tuple(x), list(x) -/
def toTupD : List D → Option D
  | [.list ds] => some (.tuple ds)
  | [.tuple ds] => some (.tuple ds)
  | _ => none
def toLstD : List D → Option D
  | [.list ds] => some (.list ds)
  | [.tuple ds] => some (.list ds)
  | _ => none
theorem cs_tuple : CallS K (fun xs H Q => ∃ p ys, xs = [.ref p] ∧ ((SqL K H p ys ∧ ∀ l, H l = none → Q (.ref l) (upd H l (.tup ys))) ∨ (SqT K H p ys ∧ Q (.ref p) H))) toTupD := by
  intro S H vs ds d Q hs ha hg k
  unfold toTupD at hg
  split at hg
  · cases hg
    obtain ⟨v, rfl, r⟩ := ha.one
    obtain ⟨p, ws, rfl, hp, zp, rp⟩ := r.list
    exact ⟨p, ws, rfl, .inl ⟨SqL.of hp, fun l hl => k _ _ (same_upd hl) (Rp.newTup hs hl zp rp)⟩⟩
  · cases hg
    obtain ⟨v, rfl, r⟩ := ha.one
    obtain ⟨p, ws, rfl, hp, zp, rp⟩ := r.tuple
    exact ⟨p, ws, rfl, .inr ⟨hp, k _ H (Same.refl H) (.tup (sqT_hide hs hp) zp rp)⟩⟩
  · cases hg
theorem cf_list : CallF K (fun xs H Q => ∃ p ys, xs = [.ref p] ∧ (SqL K H p ys ∨ SqT K H p ys) ∧ ∀ l, H l = none → Q (.ref l) (upd H l (.lst ys))) toLstD := by
  intro S H vs ds d Q hs ha hg k
  unfold toLstD at hg
  split at hg
  · cases hg
    obtain ⟨v, rfl, r⟩ := ha.one
    obtain ⟨p, ws, rfl, hp, zp, rp⟩ := r.list
    exact ⟨p, ws, rfl, .inl (SqL.of hp), fun l hl => k _ _ (same_upd hl) ⟨_, rfl, DpF.new (Same.refl H) hl zp rp⟩⟩
  · cases hg
    obtain ⟨v, rfl, r⟩ := ha.one
    obtain ⟨p, ws, rfl, hp, zp, rp⟩ := r.tuple
    exact ⟨p, ws, rfl, .inr hp, fun l hl => k _ _ (same_upd hl) ⟨_, rfl, DpF.new (Same.refl H) hl zp rp⟩⟩
  · cases hg
end
end PF

set_option Elab.async false
set_option linter.all false
set_option maxRecDepth 100000
/-! PF4: promises of defs, statements. -/
namespace PF
open PySem PySem.Spec PyProof.Rows L2
variable [Tabs]

/-! ### the promise of a def that computes -/
def spF (K : PySem.W.Frag) (n : Nat) (f : List D → Option D) : Sp := fun vs H Q _ => ∃ S ds d, HidOk S H ∧ RpAll K (hide S H) vs ds ∧ ds.length = n ∧ f ds = some d ∧ ∀ v H', Same H H' → Rp K (hide S H') v d → Q v H'
section
variable {X : Cx} {e : Expr} {es : List Expr} {fs : List (Rho → Option D)} {x : Str} {p pos : Pos} {k n : Nat} {fa : Addr} {fd : FuncData} {ps : List Str} {f : List D → Option D}
theorem g_call (F : FnOk X.prog X.w X.K X.mg X.base CX0 k fa fd ps (spF X.K n f)) (hr : Room k X.A) (hg : Gl X x) (hm : X.mg x = some (.ref fa)) (hk : PySem.W.keepIn X.K (.ref fa) = true) (hb : Binds X.K fd ps [])
    (ha : PA X (e :: es) (aE X.K fs)) (hn : decide (fs.length = n) = true)
    (hd : (x == ("__debug__" : Str)) = false := by decide) (he : starEach (e :: es) X.env = (false, eval e X.env) :: starEach es X.env := by rfl) (hpl : (backTo pos (starEach es X.env)).any (·.1) = false := by rfl) :
    PE X (.Call (.Name x p) (e :: es) [] pos) (tE X.K (app f fs)) :=
  pe_w (pe_call F hr hg hm hk hb .nil pass0 ha hd he hpl) fun σ H Q ⟨S, ρ, d, h1, h2, h3⟩ => by
    obtain ⟨ds, h4, h5⟩ := Option.bind_eq_some_iff.mp h2
    refine ⟨S, ρ, ds, h1, h4, fun vs H' e r => ?_⟩
    show spF X.K n f (vs ++ []) H' Q E0
    rw [List.append_nil]
    exact ⟨S, ds, d, h1.hid.mono e, r, by rw [argsF_length h4]; exact of_decide_eq_true hn, h5, fun v H2 e2 r2 => h3 v H2 (e.trans e2) r2⟩
theorem AllT.rp {K : PySem.W.Frag} {S : AS} {H : Hp} : ∀ {vs : List V} {ds : List D}, AllT K S H vs ds → RpAll K H vs ds
  | _, _, .nil => .nil
  | _, _, .cons h r => .cons h.all (AllT.rp r)
theorem hide_no {H : Hp} : Same H (hide (fun _ => False) H) := Same.of fun p o e => hide_iff.mpr ⟨fun z => z, e⟩
theorem g_callT (F : FnOk X.prog X.w X.K X.mg X.base CX0 k fa fd ps (spF X.K n f)) (hr : Room k X.A) (hg : Gl X x) (hm : X.mg x = some (.ref fa)) (hk : PySem.W.keepIn X.K (.ref fa) = true) (hb : Binds X.K fd ps [])
    (ha : PA X (e :: es) (aT X.K fs)) (hn : decide (fs.length = n) = true)
    (hd : (x == ("__debug__" : Str)) = false := by decide) (he : starEach (e :: es) X.env = (false, eval e X.env) :: starEach es X.env := by rfl) (hpl : (backTo pos (starEach es X.env)).any (·.1) = false := by rfl) :
    PE X (.Call (.Name x p) (e :: es) [] pos) (tE X.K (flatF (app f fs))) :=
  pe_w (pe_call F hr hg hm hk hb .nil pass0 ha hd he hpl) fun σ H Q ⟨S, ρ, d, h1, h2, h3⟩ => by
    obtain ⟨d', h4, h5⟩ := Option.bind_eq_some_iff.mp h2
    obtain ⟨ds, h6, h7⟩ := Option.bind_eq_some_iff.mp h4
    split at h5
    · rename_i hf
      cases h5
      refine ⟨S, ρ, ds, h1, h6, fun vs H' e r => ?_⟩
      show spF X.K n f (vs ++ []) H' Q E0
      rw [List.append_nil]
      exact ⟨fun _ => False, ds, d, (h1.hid.mono e).bare, RpAll.mono hide_no r.rp, by rw [argsF_length h6]; exact of_decide_eq_true hn, h7, fun v H2 e2 r2 => h3 v H2 (e.trans e2) (Rp.unhide ((h1.hid.mono e).mono e2) hf (Rp.mono hide_sub r2))⟩
    · cases h5
end

/-! ### states -/
def OwnIx (σ : L2.St) (ρ : Rho) (i : Nat) (a : Addr) : Prop := (∃ ds, ρ[i]? = some (some (.own ds))) ∧ σ[i]? = some (some (.ref a))
def hidS (S : AS) (σ : L2.St) (ρ : Rho) : AS := fun a => S a ∨ ∃ i, OwnIx σ ρ i a
structure SOk (K : PySem.W.Frag) (H0 : Hp) (S : AS) (H : Hp) (σ : L2.St) (ρ : Rho) : Prop where
  ex : Same H0 H
  len : ρ.length = σ.length
  hid0 : HidOk S H0
  sl : ∀ (i : Nat) (s : Sl), ρ[i]? = some (some s) → ∃ v, σ[i]? = some (some v) ∧ SlOk K (hidS S σ ρ) H v s
  fr : ∀ i a, OwnIx σ ρ i a → H0 a = none
  nd : ∀ i j a, OwnIx σ ρ i a → OwnIx σ ρ j a → i = j
section
variable {K : PySem.W.Frag} {H0 H H' : Hp} {S : AS} {σ : L2.St} {ρ : Rho}
theorem SOk.own (s : SOk K H0 S H σ ρ) {i : Nat} {a : Addr} (o : OwnIx σ ρ i a) : ∃ vs ds, ρ[i]? = some (some (.own ds)) ∧ H a = some (.lst vs) ∧ vs.length ≤ sizeLine ∧ RpAll K (hide (hidS S σ ρ) H) vs ds := by
  obtain ⟨⟨ds, h1⟩, h2⟩ := o
  obtain ⟨v, h3, b, vs, e, h4, hz, h5⟩ := s.sl i _ h1
  rw [h2] at h3
  cases h3
  cases e
  exact ⟨vs, ds, h1, h4, hz, h5⟩
theorem SOk.hid (s : SOk K H0 S H σ ρ) : HidOk (hidS S σ ρ) H := ⟨fun p hp => by
  rcases hp with hp | ⟨i, o⟩
  · exact (s.hid0.mono s.ex).at_ p hp
  · obtain ⟨vs, ds, _, h, _⟩ := s.own o
    exact ⟨_, h, rfl⟩, (s.hid0.mono s.ex).tab⟩
theorem SOk.eok (s : SOk K H0 S H σ ρ) : EOk K (hidS S σ ρ) H σ ρ := ⟨Nat.le_of_eq s.len, s.hid, s.sl⟩
theorem SOk.mono (s : SOk K H0 S H σ ρ) (e : Same H H') : SOk K H0 S H' σ ρ :=
  ⟨s.ex.trans e, s.len, s.hid0, fun i x q => let ⟨v, h1, h2⟩ := s.sl i x q; ⟨v, h1, h2.mono e⟩, s.fr, s.nd⟩
/-- less is known of the slots -/
theorem SOk.less {ρ' : Rho} (s : SOk K H0 S H σ ρ) (hl : ρ'.length = ρ.length)
    (h : ∀ (i : Nat) (x : Sl), ρ'[i]? = some (some x) → ρ[i]? = some (some x) ∨ ∃ ds, x = .val (.list ds) ∧ ρ[i]? = some (some (.own ds))) : SOk K H0 S H σ ρ' := by
  have back : ∀ i a, OwnIx σ ρ' i a → OwnIx σ ρ i a := fun i a ⟨⟨ds, h1⟩, h2⟩ => by
    rcases h i _ h1 with q | ⟨es, q, _⟩
    · exact ⟨⟨ds, q⟩, h2⟩
    · cases q
  have e : Same (hide (hidS S σ ρ) H) (hide (hidS S σ ρ') H) := hide_to (Same.refl _) fun p hp => .inl (hp.imp id fun ⟨i, o⟩ => ⟨i, back i p o⟩)
  refine ⟨s.ex, by rw [hl, s.len], s.hid0, fun i x q => ?_, fun i a o => s.fr i a (back i a o), fun i j a o o' => s.nd i j a (back i a o) (back j a o')⟩
  rcases h i x q with q' | ⟨ds, rfl, q'⟩
  · obtain ⟨v, h1, h2⟩ := s.sl i x q'
    refine ⟨v, h1, ?_⟩
    cases x with
    | val d => exact Rp.mono e h2
    | scr ns =>
      obtain ⟨a', h3', h4', h5'⟩ := h2
      exact ⟨a', h3', e.seq h4', h5'⟩
    | own ds =>
      obtain ⟨a, vs, e1, e2, z, e3⟩ := h2
      exact ⟨a, vs, e1, e2, z, RpAll.mono e e3⟩
  · obtain ⟨v, h1, a, vs, rfl, h3, hz, h4⟩ := s.sl i _ q'
    refine ⟨_, h1, .lst (hide_iff.mpr ⟨fun z => ?_, h3⟩) hz (RpAll.mono e h4)⟩
    have oi : OwnIx σ ρ i a := ⟨⟨ds, q'⟩, h1⟩
    rcases z with z | ⟨j, o⟩
    · exact (s.hid0.no (s.fr i a oi)) z
    · have := s.nd i j a oi (back j a o)
      subst this
      obtain ⟨⟨es, q2⟩, _⟩ := o
      rw [q] at q2
      cases q2
theorem set_own {σ : L2.St} {ρ : Rho} {i j : Nat} {v : V} {x : Sl} {a : Addr} (hl : ρ.length = σ.length) (o : OwnIx (σ.set i (some v)) (ρ.set i (some x)) j a) : (j = i ∧ v = .ref a ∧ ∃ ds, x = .own ds) ∨ (j ≠ i ∧ OwnIx σ ρ j a) := by
  obtain ⟨⟨ds, h1⟩, h2⟩ := o
  by_cases e : i = j
  · subst e
    have hlt : i < (ρ.set i (some x)).length := (List.getElem?_eq_some_iff.mp h1).1
    rw [List.length_set] at hlt
    rw [List.getElem?_set_self hlt] at h1
    rw [List.getElem?_set_self (by omega)] at h2
    cases h1; cases h2
    exact .inl ⟨rfl, rfl, ds, rfl⟩
  · rw [List.getElem?_set_ne e] at h1 h2
    exact .inr ⟨fun z => e z.symm, ⟨ds, h1⟩, h2⟩
theorem set_other {σ : L2.St} {ρ : Rho} {i j : Nat} {v : V} {x : Sl} {a : Addr} (h : j ≠ i) (o : OwnIx σ ρ j a) : OwnIx (σ.set i (some v)) (ρ.set i (some x)) j a := by
  obtain ⟨⟨ds, h1⟩, h2⟩ := o
  exact ⟨⟨ds, by rw [List.getElem?_set_ne (Ne.symm h)]; exact h1⟩, by rw [List.getElem?_set_ne (Ne.symm h)]; exact h2⟩
/-- a name is given data -/
theorem SOk.setVal (s : SOk K H0 S H σ ρ) {i : Nat} {v : V} {d : D} (r : Rp K (hide (hidS S σ ρ) H) v d) : SOk K H0 S H (σ.set i (some v)) (ρ.set i (some (.val d))) := by
  have back : ∀ j a, OwnIx (σ.set i (some v)) (ρ.set i (some (.val d))) j a → j ≠ i ∧ OwnIx σ ρ j a := fun j a o => by
    rcases set_own s.len o with ⟨_, _, ds, q⟩ | q
    · cases q
    · exact q
  have e : Same (hide (hidS S σ ρ) H) (hide (hidS S (σ.set i (some v)) (ρ.set i (some (.val d)))) H) := hide_to (Same.refl _) fun p hp => .inl (hp.imp id fun ⟨j, o⟩ => ⟨j, (back j p o).2⟩)
  refine ⟨s.ex, by simp [s.len], s.hid0, fun j x q => ?_, fun j a o => s.fr j a (back j a o).2, fun j k a o o' => s.nd j k a (back j a o).2 (back k a o').2⟩
  by_cases hj : i = j
  · subst hj
    have hlt : i < (ρ.set i (some (Sl.val d))).length := (List.getElem?_eq_some_iff.mp q).1
    rw [List.length_set] at hlt
    rw [List.getElem?_set_self hlt] at q
    cases q
    exact ⟨v, by rw [List.getElem?_set_self (by rw [← s.len]; exact hlt)], Rp.mono e r⟩
  · rw [List.getElem?_set_ne hj] at q
    obtain ⟨w, h1, h2⟩ := s.sl j x q
    refine ⟨w, by rw [List.getElem?_set_ne hj]; exact h1, ?_⟩
    cases x with
    | val d => exact Rp.mono e h2
    | scr ns =>
      obtain ⟨a', h3', h4', h5'⟩ := h2
      exact ⟨a', h3', e.seq h4', h5'⟩
    | own ds =>
      obtain ⟨a, vs, e1, e2, z, e3⟩ := h2
      exact ⟨a, vs, e1, e2, z, RpAll.mono e e3⟩
/-- a name is given a list that was just made -/
theorem SOk.setOwn (s : SOk K H0 S H σ ρ) (e0 : Same H H') {i : Nat} {v : V} {ds : List D} (r : DpF K (hidS S σ ρ) H H' v ds) : SOk K H0 S H' (σ.set i (some v)) (ρ.set i (some (.own ds))) := by
  obtain ⟨a, vs, rfl, hn, ha, hz, hr⟩ := r
  have back : ∀ j b, OwnIx (σ.set i (some (.ref a))) (ρ.set i (some (.own ds))) j b → (j = i ∧ b = a) ∨ (j ≠ i ∧ OwnIx σ ρ j b) := fun j b o => by
    rcases set_own s.len o with ⟨h1, h2, _⟩ | q
    · cases h2; exact .inl ⟨h1, rfl⟩
    · exact .inr q
  have na : ∀ j b, OwnIx σ ρ j b → b ≠ a := fun j b o z => by
    obtain ⟨ws, es, _, h, _⟩ := s.own o
    rw [z, hn] at h; cases h
  have sub : ∀ p, hidS S (σ.set i (some (.ref a))) (ρ.set i (some (.own ds))) p → hidS S σ ρ p ∨ p = a := fun p hp => by
    rcases hp with hp | ⟨j, o⟩
    · exact .inl (.inl hp)
    · rcases back j p o with ⟨_, z⟩ | ⟨_, z⟩
      · exact .inr z
      · exact .inl (.inr ⟨j, z⟩)
  have e : Same (hide (hidS S σ ρ) H) (hide (hidS S (σ.set i (some (.ref a))) (ρ.set i (some (.own ds)))) H') := hide_to e0 fun p hp => (sub p hp).imp id fun z => by rw [z]; exact hn
  refine ⟨s.ex.trans e0, by simp [s.len], s.hid0, fun j x q => ?_, fun j b o => ?_, fun j k b o o' => ?_⟩
  · by_cases hj : i = j
    · subst hj
      have hlt : i < (ρ.set i (some (Sl.own ds))).length := (List.getElem?_eq_some_iff.mp q).1
      rw [List.length_set] at hlt
      rw [List.getElem?_set_self hlt] at q
      cases q
      exact ⟨_, by rw [List.getElem?_set_self (by rw [← s.len]; exact hlt)], a, vs, rfl, ha, hz, RpAll.mono (hide_to (Same.refl _) fun p hp => .inl (sub p hp)) hr⟩
    · rw [List.getElem?_set_ne hj] at q
      obtain ⟨w, h1, h2⟩ := s.sl j x q
      refine ⟨w, by rw [List.getElem?_set_ne hj]; exact h1, ?_⟩
      cases x with
      | val d => exact Rp.mono e h2
      | scr ns =>
        obtain ⟨a', h3', h4', h5'⟩ := h2
        exact ⟨a', h3', e.seq h4', h5'⟩
      | own ds =>
        obtain ⟨b, us, e1, e2, z, e3⟩ := h2
        exact ⟨b, us, e1, e0.k e2, z, RpAll.mono e e3⟩
  · rcases back j b o with ⟨_, z⟩ | ⟨_, z⟩
    · rw [z]; exact s.ex.free hn
    · exact s.fr j b z
  · rcases back j b o with ⟨h1, z⟩ | ⟨h1, z⟩ <;> rcases back k b o' with ⟨h2, z'⟩ | ⟨h2, z'⟩
    · rw [h1, h2]
    · exact absurd z (na k b z')
    · exact absurd z' (na j b z)
    · exact s.nd j k b z z'
/-- a list of its own changes -/
theorem SOk.write (s : SOk K H0 S H σ ρ) {i : Nat} {a : Addr} {vs : List V} {ds : List D} (o : OwnIx σ ρ i a) (hz : vs.length ≤ sizeLine) (r : RpAll K (hide (hidS S σ ρ) H) vs ds) : SOk K H0 S (upd H a (.lst vs)) σ (ρ.set i (some (.own ds))) := by
  have hi : i < ρ.length := by
    obtain ⟨⟨es, h⟩, _⟩ := o
    exact (List.getElem?_eq_some_iff.mp h).1
  have same : ∀ j b, OwnIx σ (ρ.set i (some (.own ds))) j b ↔ OwnIx σ ρ j b := fun j b => by
    by_cases hj : i = j
    · subst hj
      refine ⟨fun ⟨_, q⟩ => ⟨o.1, q⟩, fun ⟨_, q⟩ => ⟨⟨ds, by rw [List.getElem?_set_self hi]⟩, q⟩⟩
    · unfold OwnIx
      rw [List.getElem?_set_ne hj]
  have hs : hidS S σ (ρ.set i (some (.own ds))) = hidS S σ ρ := by
    funext b
    unfold hidS
    simp only [same]
  have ha : hidS S σ ρ a := .inr ⟨i, o⟩
  have e : Same (hide (hidS S σ ρ) H) (hide (hidS S σ ρ) (upd H a (.lst vs))) := Same.of fun p u q => by
    have := hide_iff.mp q
    refine hide_iff.mpr ⟨this.1, ?_⟩
    have npa : p ≠ a := fun z => by subst z; exact this.1 ha
    rw [upd_ne npa]
    exact this.2
  refine ⟨s.ex.write (s.fr i a o), by simp [s.len], s.hid0, fun j x q => ?_, fun j b q => s.fr j b ((same j b).mp q), fun j k b q q' => s.nd j k b ((same j b).mp q) ((same k b).mp q')⟩
  · rw [hs]
    by_cases hj : i = j
    · subst hj
      rw [List.getElem?_set_self hi] at q
      cases q
      exact ⟨_, o.2, a, vs, rfl, upd_same, hz, RpAll.mono e r⟩
    · rw [List.getElem?_set_ne hj] at q
      obtain ⟨w, h1, h2⟩ := s.sl j x q
      refine ⟨w, h1, ?_⟩
      cases x with
      | val d => exact Rp.mono e h2
      | scr ns =>
        obtain ⟨a', h3', h4', h5'⟩ := h2
        exact ⟨a', h3', e.seq h4', h5'⟩
      | own es =>
        obtain ⟨b, us, e1, e2, z, e3⟩ := h2
        refine ⟨b, us, e1, ?_, z, RpAll.mono e e3⟩
        rw [upd_ne (fun z => hj ?_)]
        · exact e2
        · subst e1
          exact s.nd i j b (z ▸ o) ⟨⟨es, q⟩, h1⟩
/-- the entry laid anew: all that is not one's own stands -/
theorem SOk.rebase (s : SOk K H0 S H σ ρ) : SOk K (hide (fun a => ∃ i, OwnIx σ ρ i a) H) S H σ ρ := by
  refine ⟨hide_sub, s.len, s.hid0.mono (s.ex.to_hide fun p ⟨i, z⟩ => s.fr i p z), s.sl, fun i a o => ?_, s.nd⟩
  · cases q : hide (fun a => ∃ i, OwnIx σ ρ i a) H a with
    | none => rfl
    | some u => exact absurd ⟨i, o⟩ (hide_iff.mp q).1
theorem SOk.base_sub (s : SOk K H0 S H σ ρ) : Same H0 (hide (fun a => ∃ i, OwnIx σ ρ i a) H) := s.ex.to_hide fun p ⟨i, z⟩ => s.fr i p z
theorem SOk.unbase {H1 : Hp} (e : Same H0 H1) (h0 : HidOk S H0) (s : SOk K H1 S H σ ρ) : SOk K H0 S H σ ρ := ⟨e.trans s.ex, s.len, h0, s.sl, fun i a o => e.free (s.fr i a o), s.nd⟩
theorem SOk.ret (s : SOk K H0 S H σ ρ) (e : Same H H') {v : V} {d : D} (r : Rp K (hide (hidS S σ ρ) H') v d) : Rp K (hide S H') v d := Rp.mono (hide_to (Same.refl _) fun p hp => .inl (.inl hp)) r
end

/-! ### statements -/
inductive Out where
  | nx (ρ : Rho)
  | rt (d : D)
  | bk (ρ : Rho)
  | ct (ρ : Rho)
def Post (K : PySem.W.Frag) (H0 : Hp) (S : AS) (E : Ends) : Out → Prop
  | .nx ρ => ∀ σ' H', SOk K H0 S H' σ' ρ → E.nx σ' H'
  | .rt d => ∀ v H', Same H0 H' → Rp K (hide S H') v d → E.rt v H'
  | .bk ρ => ∀ σ' H', SOk K H0 S H' σ' ρ → E.bk σ' H'
  | .ct ρ => ∀ σ' H', SOk K H0 S H' σ' ρ → E.ct σ' H'
def tS (K : PySem.W.Frag) (g : Rho → Option Out) : TS := fun E σ H => ∃ H0 S ρ out, SOk K H0 S H σ ρ ∧ g ρ = some out ∧ Post K H0 S E out
def nxS : Rho → Option Out := fun ρ => some (.nx ρ)
def bkS : Rho → Option Out := fun ρ => some (.bk ρ)
def ctS : Rho → Option Out := fun ρ => some (.ct ρ)
def seqO (o : Option Out) (g : Rho → Option Out) : Option Out := match o with
  | some (.nx ρ) => g ρ
  | o => o
def seqS (g h : Rho → Option Out) : Rho → Option Out := fun ρ => seqO (g ρ) h
def asgS (i : Nat) (f : Rho → Option D) : Rho → Option Out := fun ρ => (f ρ).map fun d => .nx (ρ.set i (some (.val d)))
def listD : D → Option (List D)
  | .list ds => some ds
  | _ => none
def ownS (i : Nat) (f : Rho → Option D) : Rho → Option Out := fun ρ => ((f ρ).bind listD).map fun ds => .nx (ρ.set i (some (.own ds)))
def retS (f : Rho → Option D) : Rho → Option Out := fun ρ => (f ρ).map .rt
def ifS (c : Rho → Option Bool) (g h : Rho → Option Out) : Rho → Option Out := fun ρ => (c ρ).bind fun b => if b = true then g ρ else h ρ
def dropS (f : Rho → Option D) : Rho → Option Out := fun ρ => (f ρ).map fun _ => .nx ρ
def ownsOf (i : Nat) (ρ : Rho) : Option (List D) := match ρ[i]? with | some (some (.own ds)) => some ds | _ => none
def appS (i : Nat) (f : Rho → Option D) : Rho → Option Out := fun ρ => (ownsOf i ρ).bind fun ds => (f ρ).bind fun d => if ds.length < sizeLine then some (.nx (ρ.set i (some (.own (ds ++ [d]))))) else none
def setD (ds : List D) (i : Int) (d : D) : Option (List D) := (ixN ds.length i).map fun j => ds.set j d
def setS (i : Nat) (fi f : Rho → Option D) : Rho → Option Out := fun ρ => (ownsOf i ρ).bind fun ds => (f ρ).bind fun d => (fi ρ).bind fun k => (intD k).bind fun k => (setD ds k d).map fun es => .nx (ρ.set i (some (.own es)))
def frz (i : Nat) (ρ : Rho) : Rho := match ρ[i]? with | some (some (.own ds)) => ρ.set i (some (.val (.list ds))) | _ => ρ
/-- the slots that are forgotten -/
def kill (js : List Nat) (ρ : Rho) : Rho := js.foldl (fun ρ j => ρ.set j none) ρ
def killO (js : List Nat) : Out → Out
  | .nx ρ => .nx (kill js ρ)
  | .ct ρ => .ct (kill js ρ)
  | .bk ρ => .bk (kill js ρ)
  | .rt d => .rt d
section
variable {X : Cx} {K : PySem.W.Frag} {st : Stmt} {rest : List Stmt} {e : Expr} {f fi : Rho → Option D} {g h : Rho → Option Out} {pos : Pos}
theorem gs_nil : PSs X [] (tS K nxS) := pss_w pss_nil fun E σ H ⟨H0, S, ρ, out, h1, h2, h3⟩ => by
  cases h2; exact h3 σ H h1
theorem gs_pass : PS X (.Pass pos) (tS K nxS) := ps_w ps_pass fun E σ H ⟨H0, S, ρ, out, h1, h2, h3⟩ => by
  cases h2; exact h3 σ H h1
theorem gs_break : PS X (.Break pos) (tS K bkS) := ps_w ps_break fun E σ H ⟨H0, S, ρ, out, h1, h2, h3⟩ => by
  cases h2; exact h3 σ H h1
theorem gs_continue : PS X (.Continue pos) (tS K ctS) := ps_w ps_continue fun E σ H ⟨H0, S, ρ, out, h1, h2, h3⟩ => by
  cases h2; exact h3 σ H h1
theorem gs_cons (h1 : PS X st (tS K g)) (h2 : PSs X rest (tS K h)) : PSs X (st :: rest) (tS K (seqS g h)) := pss_w (pss_cons h1 h2) fun E σ H ⟨H0, S, ρ, out, q1, q2, q3⟩ => by
  unfold seqS at q2
  cases hg : g ρ with
  | none => rw [hg] at q2; cases q2
  | some o =>
    rw [hg] at q2
    cases o with
    | nx ρ' => exact ⟨H0, S, ρ, .nx ρ', q1, hg, fun σ' H' s => ⟨H0, S, ρ', out, s, q2, q3⟩⟩
    | rt d => cases q2; exact ⟨H0, S, ρ, .rt d, q1, hg, q3⟩
    | bk ρ' => cases q2; exact ⟨H0, S, ρ, .bk ρ', q1, hg, q3⟩
    | ct ρ' => cases q2; exact ⟨H0, S, ρ, .ct ρ', q1, hg, q3⟩
theorem gs_one (h1 : PS X st (tS K g)) : PSs X [st] (tS K g) := pss_one h1
/-- ghost steps -/
theorem gs_frz {sts : List Stmt} (i : Nat) (h : PSs X sts (tS K g)) : PSs X sts (tS K (fun ρ => g (frz i ρ))) := pss_w h fun E σ H ⟨H0, S, ρ, out, q1, q2, q3⟩ =>
  ⟨H0, S, frz i ρ, out, q1.less (by unfold frz; split <;> simp) (fun j x q => by
    unfold frz at q
    split at q
    · rename_i ds hi
      by_cases hj : i = j
      · subst hj
        rw [List.getElem?_set_self (List.getElem?_eq_some_iff.mp hi).1] at q
        cases q
        exact .inr ⟨ds, rfl, hi⟩
      · rw [List.getElem?_set_ne hj] at q
        exact .inl q
    · exact .inl q), q2, q3⟩
theorem kill_get {js : List Nat} : ∀ {ρ : Rho} {i : Nat} {x : Sl}, (kill js ρ)[i]? = some (some x) → ρ[i]? = some (some x) := by
  induction js with
  | nil => intro ρ i x h; exact h
  | cons j js ih =>
    intro ρ i x h
    have := ih (ρ := ρ.set j none) h
    by_cases hj : j = i
    · subst hj
      by_cases hl : j < ρ.length
      · rw [List.getElem?_set_self hl] at this; cases this
      · rw [List.getElem?_eq_none (by simpa using hl)] at this; cases this
    · rw [List.getElem?_set_ne hj] at this; exact this
theorem kill_length {js : List Nat} : ∀ {ρ : Rho}, (kill js ρ).length = ρ.length := by
  induction js with
  | nil => intro ρ; rfl
  | cons j js ih => intro ρ; show (kill js (ρ.set j none)).length = _; rw [ih]; simp
theorem SOk.kill {H0 H : Hp} {S : AS} {σ : L2.St} {ρ : Rho} (js : List Nat) (s : SOk K H0 S H σ ρ) : SOk K H0 S H σ (kill js ρ) := s.less kill_length fun i x q => .inl (kill_get q)
theorem gs_kill {sts : List Stmt} (js : List Nat) (h : PSs X sts (tS K g)) : PSs X sts (tS K (fun ρ => (g ρ).map (killO js))) := pss_w h fun E σ H ⟨H0, S, ρ, out, q1, q2, q3⟩ => by
  obtain ⟨o, h4, h5⟩ := Option.map_eq_some_iff.mp q2
  subst h5
  refine ⟨H0, S, ρ, o, q1, h4, ?_⟩
  cases o with
  | rt d => exact q3
  | nx ρ' => exact fun σ' H' s => q3 σ' H' (s.kill js)
  | bk ρ' => exact fun σ' H' s => q3 σ' H' (s.kill js)
  | ct ρ' => exact fun σ' H' s => q3 σ' H' (s.kill js)
/-- ahead of a block -/
theorem gs_kill0 {sts : List Stmt} (js : List Nat) (h : PSs X sts (tS K g)) : PSs X sts (tS K (fun ρ => g (kill js ρ))) := pss_w h fun E σ H ⟨H0, S, ρ, out, q1, q2, q3⟩ => ⟨H0, S, _, out, q1.kill js, q2, q3⟩

theorem tAsg_of {i : Nat} : ∀ E σ H, tS K (asgS i f) E σ H → tAsg (tE K f) (gName i) E σ H := fun E σ H ⟨H0, S, ρ, out, q1, q2, q3⟩ => by
  obtain ⟨d, h4, h5⟩ := Option.map_eq_some_iff.mp q2
  subst h5
  exact ⟨_, ρ, d, q1.eok, h4, fun v H' e r => q3 _ _ ((q1.mono e).setVal r)⟩
theorem tOwn_of {i : Nat} : ∀ E σ H, tS K (ownS i f) E σ H → tAsg (tF K f) (gName i) E σ H := fun E σ H ⟨H0, S, ρ, out, q1, q2, q3⟩ => by
  obtain ⟨ds, h4, h5⟩ := Option.map_eq_some_iff.mp q2
  subst h5
  obtain ⟨d, h6, h7⟩ := Option.bind_eq_some_iff.mp h4
  refine ⟨_, ρ, d, q1.eok, h6, fun v H' e ⟨zs, ez, r⟩ => ?_⟩
  subst ez
  cases h7
  exact q3 _ _ (q1.setOwn e r)
theorem gs_set {i : Nat} {x : Str} {pos' : Pos} (h : PS X (.Assign [.Name x pos'] e pos) (tAsg (tE K f) (gName i))) : PS X (.Assign [.Name x pos'] e pos) (tS K (asgS i f)) := ps_w h tAsg_of
theorem gs_own {i : Nat} {x : Str} {pos' : Pos} (h : PS X (.Assign [.Name x pos'] e pos) (tAsg (tF K f) (gName i))) : PS X (.Assign [.Name x pos'] e pos) (tS K (ownS i f)) := ps_w h tOwn_of
theorem gs_ret (he : PE X e (tE K f)) : PS X (.Return (some e) pos) (tS K (retS f)) := ps_w (ps_ret he) fun E σ H ⟨H0, S, ρ, out, q1, q2, q3⟩ => by
  obtain ⟨d, h4, h5⟩ := Option.map_eq_some_iff.mp q2
  subst h5
  exact ⟨_, ρ, d, q1.eok, h4, fun v H' e r => q3 v H' (q1.ex.trans e) (q1.ret e r)⟩
theorem gs_retN : PS X (.Return none pos) (tS K (retS (cF .none))) := ps_w ps_retN fun E σ H ⟨H0, S, ρ, out, q1, q2, q3⟩ => by
  cases q2
  exact q3 .non H q1.ex .non
theorem gs_if {c : Expr} {a b : List Stmt} {bc : Rho → Option Bool} (hc : PT X c (tB K bc)) (ha : PSs X a (tS K g)) (hb : PSs X b (tS K h)) : PS X (.If c a b pos) (tS K (ifS bc g h)) := ps_w (ps_if hc ha hb) fun E σ H ⟨H0, S, ρ, out, q1, q2, q3⟩ => by
  obtain ⟨b, h4, h5⟩ := Option.bind_eq_some_iff.mp q2
  refine ⟨_, ρ, b, q1.eok, h4, fun H' e => ?_⟩
  cases b with
  | true => exact ⟨H0, S, ρ, out, q1.mono e, h5, q3⟩
  | false => exact ⟨H0, S, ρ, out, q1.mono e, h5, q3⟩
theorem gs_drop (he : PE X e (tT K f)) (hs : swapsWith e none pos.line X.env = pure false := by rfl) : PS X (.Expr e pos) (tS K (dropS f)) := ps_w (ps_expr he hs) fun E σ H ⟨H0, S, ρ, out, q1, q2, q3⟩ => by
  obtain ⟨d, h4, h5⟩ := Option.map_eq_some_iff.mp q2
  subst h5
  exact ⟨_, ρ, d, q1.eok, h4, fun v H' e r => q3 _ _ (q1.mono e)⟩
theorem ownsOf_some {i : Nat} {ρ : Rho} {ds : List D} (h : ownsOf i ρ = some ds) : ρ[i]? = some (some (.own ds)) := by
  unfold ownsOf at h
  split at h
  · cases h; assumption
  · cases h
theorem SOk.ownAt {H0 H : Hp} {S : AS} {σ : L2.St} {ρ : Rho} (s : SOk K H0 S H σ ρ) {i : Nat} {ds : List D} (h : ρ[i]? = some (some (.own ds))) : ∃ a vs, σ[i]? = some (some (.ref a)) ∧ OwnIx σ ρ i a ∧ H a = some (.lst vs) ∧ vs.length ≤ sizeLine ∧ RpAll K (hide (hidS S σ ρ) H) vs ds := by
  obtain ⟨v, h1, a, vs, rfl, h2, hz, h3⟩ := s.sl i _ h
  exact ⟨a, vs, h1, ⟨⟨ds, h⟩, h1⟩, h2, hz, h3⟩
theorem gs_append {i : Nat} {o : Expr} {apos cpos : Pos} (h : PS X (.Expr (.Call (.Attribute o "append" apos) [e] [] cpos) pos) (tDrop (tBM X.K "list" rAppend (tVar i) (tCons (tE X.K f) tNil)))) :
    PS X (.Expr (.Call (.Attribute o "append" apos) [e] [] cpos) pos) (tS X.K (appS i f)) := ps_w h fun E σ H ⟨H0, S, ρ, out, q1, q2, q3⟩ => by
  obtain ⟨ds, h4, h5⟩ := Option.bind_eq_some_iff.mp q2
  obtain ⟨d, h6, h7⟩ := Option.bind_eq_some_iff.mp h5
  split at h7
  · rename_i hz
    cases h7
    obtain ⟨a, vs, hσ, ho, ha, zz, hr⟩ := q1.ownAt (ownsOf_some h4)
    refine ⟨_, hσ, .inl ⟨rfl, vs, SqL.of ha⟩, _, ρ, d, q1.eok, h6, fun v H' e r => ?_⟩
    have ha' := e.k ha
    have hr' := RpAll.mono (hide_mono e) hr
    refine ⟨a, vs, v, rfl, rfl, ha', by rw [hr.length]; exact hz, ?_⟩
    exact q3 _ _ ((q1.mono e).write ho (by rw [List.length_append, hr.length]; exact hz) (hr'.append (.cons r .nil)))
  · cases h7
theorem ixN_len {n m : Nat} {i : Int} (h : n = m) : ixN n i = ixN m i := by rw [h]
theorem gs_store {i : Nat} {o ix : Expr} {tpos : Pos} (h : PS X (.Assign [.Subscript o ix tpos] e pos) (tAsg (tE K f) (gSub (tVar i) (tT K fi) rSetL))) : PS X (.Assign [.Subscript o ix tpos] e pos) (tS K (setS i fi f)) := ps_w h fun E σ H ⟨H0, S, ρ, out, q1, q2, q3⟩ => by
  obtain ⟨ds, h4, h5⟩ := Option.bind_eq_some_iff.mp q2
  obtain ⟨d, h6, h7⟩ := Option.bind_eq_some_iff.mp h5
  obtain ⟨k, h8, h9⟩ := Option.bind_eq_some_iff.mp h7
  obtain ⟨k', h10, h11⟩ := Option.bind_eq_some_iff.mp h9
  obtain ⟨es, h12, h13⟩ := Option.map_eq_some_iff.mp h11
  subst h13
  obtain ⟨j, h14, h15⟩ := Option.map_eq_some_iff.mp h12
  subst h15
  obtain ⟨a, vs, hσ, ho, ha, zz, hr⟩ := q1.ownAt (ownsOf_some h4)
  refine ⟨_, ρ, d, q1.eok, h6, fun v H' e r => ⟨_, hσ, _, ρ, k, q1.eok.mono e, h8, fun w H2 e2 r2 => ?_⟩⟩
  have ek : k = .int k' := by cases k <;> simp [intD] at h10; rw [h10]
  subst ek
  have := r2.int
  subst this
  have ha' := e2.k (e.k ha)
  refine ⟨a, vs, k', j, rfl, rfl, ha', by rw [hr.length]; exact h14, ?_⟩
  exact q3 _ _ (((q1.mono e).mono e2).write ho (by rw [List.length_set]; exact zz) (RpAll.set (Rp.mono (hide_mono e2) r) j (RpAll.mono (hide_mono (e.trans e2)) hr)))
/-- x op= e, x and e data -/
def augS (i : Nat) (g : D → D → Option D) (f : Rho → Option D) : Rho → Option Out := fun ρ => (varF i ρ).bind fun a => (f ρ).bind fun b => (g a b).map fun d => .nx (ρ.set i (some (.val d)))
def IpS (K : PySem.W.Frag) (r : TIp) (g : D → D → Option D) : Prop := OpS K r g
theorem gs_aug {i : Nat} {x : Str} {op : Operator} {ti : TIp} {gd : D → D → Option D} {pos' : Pos} (h : PS X (.AugAssign (.Name x pos') op e pos) (tAug i (tT K f) ti)) (hr : OpS K ti gd) : PS X (.AugAssign (.Name x pos') op e pos) (tS K (augS i gd f)) := ps_w h fun E σ H ⟨H0, S, ρ, out, q1, q2, q3⟩ => by
  obtain ⟨a, h4, h5⟩ := Option.bind_eq_some_iff.mp q2
  obtain ⟨b, h6, h7⟩ := Option.bind_eq_some_iff.mp h5
  obtain ⟨d, h8, h9⟩ := Option.map_eq_some_iff.mp h7
  subst h9
  obtain ⟨v, hv, rv⟩ := q1.eok.sl i _ (varF_some h4)
  refine ⟨v, hv, _, ρ, b, q1.eok, h6, fun w H' e r => ?_⟩
  have s1 := q1.mono e
  exact hr _ H' v w a b d _ s1.hid (.inl (Rp.mono (hide_mono e) rv)) r h8 fun z H2 e2 r2 => q3 _ _ ((s1.mono e2).setVal r2)

/-! ### targets -/
def tG (K : PySem.W.Frag) (p : D → Rho → Option Rho) : TG := fun v σ H Q => ∃ H0 S ρ d ρ', SOk K H0 S H σ ρ ∧ Rp K (hide (hidS S σ ρ) H) v d ∧ p d ρ = some ρ' ∧ ∀ σ' H', SOk K H0 S H' σ' ρ' → Q σ' H'
def tGs (K : PySem.W.Frag) (p : List D → Rho → Option Rho) : TGs := fun vs σ H Q => ∃ H0 S ρ ds ρ', SOk K H0 S H σ ρ ∧ RpAll K (hide (hidS S σ ρ) H) vs ds ∧ p ds ρ = some ρ' ∧ ∀ σ' H', SOk K H0 S H' σ' ρ' → Q σ' H'
end
end PF

set_option Elab.async false
set_option linter.all false
set_option maxRecDepth 100000
/-! PF5: targets, what is walked, for, while, comprehensions. -/
namespace PF
open PySem PySem.Spec PyProof.Rows L2
variable [Tabs]

section
variable {K : PySem.W.Frag} {H0 H H' : Hp} {S : AS} {σ σ' : L2.St} {ρ ρ' : Rho}
theorem SOk.stay (s : SOk K H0 S H σ ρ) (s' : SOk K (hide (fun a => ∃ i, OwnIx σ ρ i a) H) S H' σ' ρ') : Same (hide (hidS S σ ρ) H) (hide (hidS S σ' ρ') H') := by
  have no : ∀ p u, hide (hidS S σ ρ) H p = some u → hide (fun a => ∃ i, OwnIx σ ρ i a) H p = some u ∧ ¬ hidS S σ' ρ' p := fun p u q => by
    have h := hide_iff.mp q
    have hb : hide (fun a => ∃ i, OwnIx σ ρ i a) H p = some u := hide_iff.mpr ⟨fun z => h.1 (.inr z), h.2⟩
    refine ⟨hb, fun z => ?_⟩
    rcases z with z | ⟨i, z⟩
    · exact h.1 (.inl z)
    · rw [s'.fr i p z] at hb; cases hb
  refine ⟨fun p u q n => hide_iff.mpr ⟨(no p u q).2, s'.ex.k (no p u q).1 n⟩, fun p ps q => ?_⟩
  obtain ⟨m, h1, h2⟩ := s'.ex.tb p ps (no _ _ q).1
  exact ⟨m, hide_iff.mpr ⟨(no _ _ q).2, h1⟩, h2⟩
end

/-! ### targets -/
def namP (i : Nat) : D → Rho → Option Rho := fun d ρ => some (ρ.set i (some (.val d)))
def nilP : List D → Rho → Option Rho
  | [], ρ => some ρ
  | _ :: _, _ => none
def consP (p : D → Rho → Option Rho) (q : List D → Rho → Option Rho) : List D → Rho → Option Rho
  | [], _ => none
  | d :: ds, ρ => (p d ρ).bind (q ds)
def tupP (n : Nat) (q : List D → Rho → Option Rho) : D → Rho → Option Rho
  | .tuple ds, ρ => if ds.length = n then q ds ρ else none
  | _, _ => none
section
variable {X : Cx} {K : PySem.W.Frag} {e : Expr} {es : List Expr} {pos : Pos}
theorem pg_w {t t' : TG} (h : PG X e t) (w : ∀ v σ H Q, t' v σ H Q → t v σ H Q) : PG X e t' := ⟨fun pins s σ H v u Q I r q => h.run pins s σ H v u Q I r (w _ _ _ _ q)⟩
theorem pgs_w {t t' : TGs} (h : PGs X es t) (w : ∀ v σ H Q, t' v σ H Q → t v σ H Q) : PGs X es t' := ⟨fun pins s σ H v u Q I r q => h.run pins s σ H v u Q I r (w _ _ _ _ q)⟩
theorem gg_name {i : Nat} (h : PG X e (gName i)) : PG X e (tG K (namP i)) := pg_w h fun v σ H Q ⟨H0, S, ρ, d, ρ', q1, q2, q3, q4⟩ => by
  cases q3
  exact q4 _ _ (q1.setVal q2)
theorem ggs_nil : PGs X [] (tGs K nilP) := pgs_w pgs_nil fun v σ H Q ⟨H0, S, ρ, ds, ρ', q1, q2, q3, q4⟩ => by
  cases q2 with
  | nil => cases q3; exact ⟨rfl, q4 _ _ q1⟩
  | cons _ _ => cases q3
theorem ggs_cons {p : D → Rho → Option Rho} {q : List D → Rho → Option Rho} (h1 : PG X e (tG K p)) (h2 : PGs X es (tGs K q))
    (hs : (assignEach (e :: es) X.env).map (·.2) = assign e X.env :: (assignEach es X.env).map (·.2) := by rfl) : PGs X (e :: es) (tGs K (consP p q)) := pgs_w (pgs_cons h1 h2 hs) fun v σ H Q ⟨H0, S, ρ, ds, ρ', q1, q2, q3, q4⟩ => by
  cases q2 with
  | nil => cases q3
  | @cons w ws d es' r rr =>
    obtain ⟨ρ1, h3, h4⟩ := Option.bind_eq_some_iff.mp q3
    refine ⟨w, ws, rfl, _, S, ρ, d, ρ1, q1.rebase, r, h3, fun σ1 H1 s1 => ?_⟩
    exact ⟨H0, S, ρ1, es', ρ', s1.unbase q1.base_sub q1.hid0, RpAll.mono (q1.stay s1) rr, h4, q4⟩
theorem gg_tup {k n : Nat} {q : List D → Rho → Option Rho} (hc : X.calm = true) (h : PGs X es (tGs X.K q))
    (hn : (assignEach es X.env).length = n := by rfl) (hst : (assignEach es X.env).findIdx? (·.1) = none := by rfl) : PG X (.Tuple es k pos) (tG X.K (tupP n q)) := pg_w (pg_tup hc h hn hst) fun v σ H Q ⟨H0, S, ρ, d, ρ', q1, q2, q3, q4⟩ => by
  cases d <;> simp only [tupP, reduceCtorEq] at q3
  rename_i ds
  split at q3
  · rename_i hl
    cases q2 with
    | tup h z r => exact ⟨_, _, rfl, sqT_mono hide_sub h, by rw [r.length]; exact hl, H0, S, ρ, ds, ρ', q1, r, q3, q4⟩
  · cases q3
/-- target = e -/
def asgP (p : D → Rho → Option Rho) (f : Rho → Option D) : Rho → Option Out := fun ρ => (f ρ).bind fun d => (p d ρ).map .nx
theorem gs_asg {tg : Expr} {p : D → Rho → Option Rho} {f : Rho → Option D} (h : PS X (.Assign [tg] e pos) (tAsg (tE K f) (tG K p))) : PS X (.Assign [tg] e pos) (tS K (asgP p f)) := ps_w h fun E σ H ⟨H0, S, ρ, out, q1, q2, q3⟩ => by
  obtain ⟨d, h4, h5⟩ := Option.bind_eq_some_iff.mp q2
  obtain ⟨ρ', h6, h7⟩ := Option.map_eq_some_iff.mp h5
  subst h7
  exact ⟨_, ρ, d, q1.eok, h4, fun v H' e r => ⟨H0, S, ρ, d, ρ', q1.mono e, r, h6, q3⟩⟩
end

/-! ### what is walked -/
def ItOk (K : PySem.W.Frag) (S : AS) (H : Hp) (J : It) (ds : List D) : Prop := ds.length ≤ sizeLine ∧ ∀ (S' : AS) (H' : Hp), Same (hide S H) (hide S' H') → HidOk S' H' →
  J.stop ds.length H' ∧ ∀ (i : Nat) d, ds[i]? = some d → J.go i H' ∧ ∀ x H2, J.yld i H' x H2 → Same H' H2 ∧ Rp K (hide S' H2) x d
def ItT (K : PySem.W.Frag) (S : AS) (H : Hp) (J : It) (ds : List D) : Prop := ds.length ≤ sizeLine ∧ ∀ (S' : AS) (H' : Hp), Same (hide S H) (hide S' H') → Same H H' → HidOk S' H' →
  J.stop ds.length H' ∧ ∀ (i : Nat) d, ds[i]? = some d → J.go i H' ∧ ∀ x H2, J.yld i H' x H2 → Same H' H2 ∧ Rp K (hide S' H2) x d
def tI (K : PySem.W.Frag) (src : Rho → Option (List D)) : TI := fun σ H R => ∃ S ρ ds, EOk K S H σ ρ ∧ src ρ = some ds ∧ ∀ J H', Same H H' → ItOk K S H' J ds → R J H'
def tJ (K : PySem.W.Frag) (src : Rho → Option (List D)) : TI := fun σ H R => ∃ S ρ ds, EOk K S H σ ρ ∧ src ρ = some ds ∧ ∀ J H', Same H H' → ItT K S H' J ds → R J H'
section
variable {X : Cx} {K : PySem.W.Frag} {e tg iter : Expr} {pos p : Pos} {f : Rho → Option D} {src : Rho → Option (List D)}
theorem pi_w {t t' : TI} (h : PI X tg iter t) (w : ∀ σ H Q, t' σ H Q → t σ H Q) : PI X tg iter t' := ⟨fun pins s σ H R I q => h.run pins s σ H R I (w _ _ _ q)⟩
theorem ItOk.weak {S : AS} {H : Hp} {J : It} {ds : List D} (h : ItOk K S H J ds) : ItT K S H J ds := ⟨h.1, fun S' H' e _ hs => h.2 S' H' e hs⟩
theorem gi_weak (h : PI X tg iter (tI K src)) : PI X tg iter (tJ K src) := pi_w h fun σ H R ⟨S, ρ, ds, h1, h2, h3⟩ => ⟨S, ρ, ds, h1, h2, fun J H' e i => h3 J H' e i.weak⟩
def iSeq (K : PySem.W.Frag) (tl : TE) : TI := fun σ H R => tl σ H fun x H1 => (∃ a xs, x = .ref a ∧ SqL K H1 a xs ∧ R (Itl K a) H1) ∨ (∃ a xs, x = .ref a ∧ SqT K H1 a xs ∧ R (Itt K a) H1) ∨ (∃ z, x = .str z ∧ R (Its z) H1)
theorem pi_seq {l : Expr} {tl : TE} (hl : PE X l tl) : PI X tg l (iSeq X.K tl) := by
  refine ⟨fun pins s σ H R I h => ?_⟩
  refine thn (hl.run pins s σ H _ I h) fun v s1 ⟨x, H1, I1, r1, q1⟩ => ?_
  rcases q1 with ⟨a, xs, e, hq, q⟩ | ⟨a, xs, e, hq, q⟩ | ⟨z, e, q⟩
  · subst e
    cases r1
    obtain ⟨its, rv, p, hz⟩ := I1.list hq
    refine wpAny_pyIter_list p.isList ?_
    refine ⟨s1.heap.objs.size, [s1.heap.objs.size], _, _, H1, rfl, I1.kept (t' := s1.toks) fun b o e => Heap.get?_push_of_some _ e, turn_list a _, ⟨_, Heap.get?_push_size _ rfl, rfl, rfl⟩, fun b hb => ?_, q⟩
    have e : b = s1.heap.objs.size := by simpa using hb
    subst e
    exact I1.fpOk (Nat.le_refl _) (I1.hok.fresh (Nat.le_refl _))
  · subst e
    cases r1
    obtain ⟨its, rv, p, hz⟩ := I1.tuple hq
    refine wpAny_pyIter_tuple (show s1.heap.IsTuple a its.toArray from p) ?_
    refine ⟨s1.heap.objs.size, [s1.heap.objs.size], _, _, H1, rfl, I1.kept (t' := s1.toks) fun b o e => Heap.get?_push_of_some _ e, turn_tuple a _, ⟨_, Heap.get?_push_size _ rfl, rfl, rfl⟩, fun b hb => ?_, q⟩
    have e : b = s1.heap.objs.size := by simpa using hb
    subst e
    exact I1.fpOk (Nat.le_refl _) (I1.hok.fresh (Nat.le_refl _))
  · subst e
    obtain ⟨t, rfl⟩ := r1
    cases ha : z.cps.all (· < 128)
    · exact wpAny_pyIter_wide ha (pi_one (tk := s1.toks) I1 _ (turn_str _ z t "str_iterator" (.inr rfl)) ⟨_, Heap.get?_push_size _ rfl, rfl, rfl⟩ q)
    · exact wpAny_pyIter_ascii ha (pi_one (tk := s1.toks) I1 _ (turn_str _ z t "str_ascii_iterator" (.inl rfl)) ⟨_, Heap.get?_push_size _ rfl, rfl, rfl⟩ q)
def seqD : D → Option (List D)
  | .list ds => some ds
  | .tuple ds => some ds
  | .str z => if z.length ≤ sizeLine then some (z.cps.toList.map fun c => .str ⟨#[c]⟩) else none
  | _ => none
def srcF (f : Rho → Option D) : Rho → Option (List D) := fun ρ => (f ρ).bind seqD
theorem it_tup {S S' : AS} {H H' : Hp} {a : Addr} {vs : List V} {ds : List D} (ht : SqT K (hide S' H') a vs) (r : RpAll K (hide S' H') vs ds) : (Itt K a).stop ds.length H' ∧ ∀ (i : Nat) d, ds[i]? = some d → (Itt K a).go i H' ∧ ∀ x H2, (Itt K a).yld i H' x H2 → Same H' H2 ∧ Rp K (hide S' H2) x d := by
  have h := sqT_mono hide_sub ht
  refine ⟨⟨vs, h, by rw [r.length]; exact Nat.le_refl _⟩, fun i d hd => ?_⟩
  obtain ⟨v, h1, h2⟩ := r.get hd
  refine ⟨⟨vs, v, h, h1⟩, fun x H2 ⟨e, y⟩ => ?_⟩
  subst e
  have := y vs h
  rw [h1] at this
  cases this
  exact ⟨Same.refl _, h2⟩
theorem it_lst {S S' : AS} {H H' : Hp} {a : Addr} {vs : List V} {ds : List D} (h : H' a = some (.lst vs)) (r : RpAll K (hide S' H') vs ds) : (Itl K a).stop ds.length H' ∧ ∀ (i : Nat) d, ds[i]? = some d → (Itl K a).go i H' ∧ ∀ x H2, (Itl K a).yld i H' x H2 → Same H' H2 ∧ Rp K (hide S' H2) x d := by
  have h := SqL.of (K := K) h
  refine ⟨⟨vs, h, by rw [r.length]; exact Nat.le_refl _⟩, fun i d hd => ?_⟩
  obtain ⟨v, h1, h2⟩ := r.get hd
  refine ⟨⟨vs, v, h, h1⟩, fun x H2 ⟨e, y⟩ => ?_⟩
  subst e
  have := y vs h
  rw [h1] at this
  cases this
  exact ⟨Same.refl _, h2⟩
theorem it_str {S' : AS} {H' : Hp} {z : Str} : (Its z).stop (z.cps.toList.map fun c => (PyData.str ⟨#[c]⟩ : D)).length H' ∧ ∀ (i : Nat) d, (z.cps.toList.map fun c => (PyData.str ⟨#[c]⟩ : D))[i]? = some d → (Its z).go i H' ∧ ∀ x H2, (Its z).yld i H' x H2 → Same H' H2 ∧ Rp K (hide S' H2) x d := by
  refine ⟨by simp [Its], fun i d hd => ?_⟩
  rw [List.getElem?_map] at hd
  obtain ⟨c, h1, h2⟩ := Option.map_eq_some_iff.mp hd
  subst h2
  have hi : i < z.cps.toList.length := (List.getElem?_eq_some_iff.mp h1).1
  refine ⟨by simpa [Its] using hi, fun x H2 ⟨e, c', y, ex⟩ => ?_⟩
  subst e ex
  have : some c' = some c := by rw [← y, ← h1]; simp
  cases this
  exact ⟨Same.refl _, .str _⟩
theorem gi_seq {l : Expr} (hl : PE X l (tE X.K f)) : PI X tg l (tI X.K (srcF f)) := pi_w (pi_seq hl) fun σ H R ⟨S, ρ, ds, h1, h2, h3⟩ => by
  obtain ⟨d, h4, h5⟩ := Option.bind_eq_some_iff.mp h2
  refine ⟨S, ρ, d, h1, h4, fun v H' e r => ?_⟩
  cases d <;> simp only [seqD, reduceCtorEq] at h5
  case list xs =>
    cases h5
    cases r with
    | lst h z r =>
      rename_i a vs
      have := hide_iff.mp h
      exact .inl ⟨a, vs, rfl, SqL.of this.2, h3 _ H' e ⟨by rw [← r.length]; exact z, fun S' H2 e2 hs => it_lst (S := S) (H := H) (hide_iff.mp (e2.k h)).2 (RpAll.mono e2 r)⟩⟩
  case tuple xs =>
    cases h5
    cases r with
    | tup h z r =>
      rename_i a vs
      exact .inr (.inl ⟨a, vs, rfl, sqT_mono hide_sub h, h3 _ H' e ⟨by rw [← r.length]; exact z, fun S' H2 e2 hs => it_tup (S := S) (H := H) (sqT_mono e2 h) (RpAll.mono e2 r)⟩⟩)
  case str z =>
    split at h5
    · rename_i hz
      cases h5
      cases r
      exact .inr (.inr ⟨z, rfl, h3 _ H' e ⟨by simpa [Str.length] using hz, fun S' H2 e2 hs => it_str⟩⟩)
    · cases h5
/-- .. in a comprehension also a list of the def's own -/
theorem gi_seqT {l : Expr} (hl : PE X l (tT X.K f)) : PI X tg l (tJ X.K (srcF f)) := pi_w (pi_seq hl) fun σ H R ⟨S, ρ, ds, h1, h2, h3⟩ => by
  obtain ⟨d, h4, h5⟩ := Option.bind_eq_some_iff.mp h2
  refine ⟨S, ρ, d, h1, h4, fun v H' e r => ?_⟩
  cases d <;> simp only [seqD, reduceCtorEq] at h5
  case list xs =>
    cases h5
    obtain ⟨a, vs, rfl, h, z, r⟩ := r.list
    exact .inl ⟨a, vs, rfl, SqL.of h, h3 _ H' e ⟨by rw [← r.length]; exact z, fun S' H2 e1 e2 hs => it_lst (S := S) (H := H) (e2.k h) (RpAll.mono e1 r)⟩⟩
  case tuple xs =>
    cases h5
    obtain ⟨a, vs, rfl, h, z, r⟩ := r.tuple
    exact .inr (.inl ⟨a, vs, rfl, h, h3 _ H' e ⟨by rw [← r.length]; exact z, fun S' H2 e1 e2 hs => it_tup (S := S) (H := H) (sqT_hide hs (sqT_mono e2 h)) (RpAll.mono e1 r)⟩⟩)
  case str z =>
    split at h5
    · rename_i hz
      cases h5
      have := r.str
      subst this
      exact .inr (.inr ⟨z, rfl, h3 _ H' e ⟨by simpa [Str.length] using hz, fun S' H2 e1 e2 hs => it_str⟩⟩)
    · cases h5
/-! range -/
def rngL (lo : Int) (n : Nat) : List D := (List.range n).map fun (k : Nat) => .int (lo + (k : Int))
def okR (i : Int) : Bool := decide (-(2 ^ 62) ≤ i) && decide (i < 2 ^ 62)
def rng1D : D → Option (List D)
  | .int n => if okR n && decide (n.toNat ≤ sizeLine) then some (rngL 0 n.toNat) else none
  | _ => none
def rng2D : D → D → Option (List D)
  | .int a, .int b => if okR a && okR b && decide ((b - a).toNat ≤ sizeLine) then some (rngL a (b - a).toNat) else none
  | _, _ => none
def rng1F (f : Rho → Option D) : Rho → Option (List D) := fun ρ => (f ρ).bind rng1D
def rng2F (f g : Rho → Option D) : Rho → Option (List D) := fun ρ => (f ρ).bind fun a => (g ρ).bind fun b => rng2D a b
theorem it_rng {S' : AS} {H' : Hp} {lo : Int} {n : Nat} : (Itr lo n).stop (rngL lo n).length H' ∧ ∀ (i : Nat) d, (rngL lo n)[i]? = some d → (Itr lo n).go i H' ∧ ∀ x H2, (Itr lo n).yld i H' x H2 → Same H' H2 ∧ Rp K (hide S' H2) x d := by
  refine ⟨by simp [Itr, rngL], fun i d hd => ?_⟩
  unfold rngL at hd
  rw [List.getElem?_map] at hd
  obtain ⟨k, h1, h2⟩ := Option.map_eq_some_iff.mp hd
  subst h2
  have hi : i < n := by simpa using (List.getElem?_eq_some_iff.mp h1).1
  have hk : k = i := by rw [List.getElem?_range hi] at h1; exact (Option.some.inj h1).symm
  subst hk
  refine ⟨hi, fun x H2 ⟨e, ex⟩ => ?_⟩
  subst e ex
  exact ⟨Same.refl _, .int _⟩
theorem okR_iff {i : Int} : okR i = true ↔ -(2 ^ 62) ≤ i ∧ i < 2 ^ 62 := by unfold okR; simp
theorem args1 {f : Rho → Option D} {ρ : Rho} {d : D} (h : f ρ = some d) : argsF [f] ρ = some [d] := by simp [argsF, h]
theorem args2 {f g : Rho → Option D} {ρ : Rho} {d e : D} (h : f ρ = some d) (h' : g ρ = some e) : argsF [f, g] ρ = some [d, e] := by simp [argsF, h, h']
theorem args3 {f g k : Rho → Option D} {ρ : Rho} {d e c : D} (h : f ρ = some d) (h' : g ρ = some e) (h'' : k ρ = some c) : argsF [f, g, k] ρ = some [d, e, c] := by simp [argsF, h, h', h'']
theorem gi_range1 {a : Expr} (hg : Gl X "range") (hm : X.mg "range" = none) (ha : PA X [a] (aT X.K [f])) (hs : starEach [a] X.env = [(false, eval a X.env)] := by rfl) : PI X tg (.Call (.Name "range" p) [a] [] pos) (tI X.K (rng1F f)) :=
  pi_w (pi_range1 hg hm ha hs) fun σ H R ⟨S, ρ, ds, h1, h2, h3⟩ => by
    obtain ⟨d, h4, h5⟩ := Option.bind_eq_some_iff.mp h2
    refine ⟨S, ρ, [d], h1, args1 h4, fun vs H' e r => ?_⟩
    cases d <;> simp only [rng1D, reduceCtorEq] at h5
    rename_i n
    split at h5
    · rename_i hz
      cases h5
      obtain ⟨v, rfl, r1⟩ := r.one
      have := r1.int
      subst this
      simp only [Bool.and_eq_true, okR_iff, decide_eq_true_eq] at hz
      exact ⟨n, rfl, hz.1.1, hz.1.2, h3 _ H' e ⟨by simpa [rngL] using hz.2, fun S' H2 e2 hs => it_rng⟩⟩
    · cases h5
theorem gi_range2 {a b : Expr} {g : Rho → Option D} (hg : Gl X "range") (hm : X.mg "range" = none) (ha : PA X [a, b] (aT X.K [f, g])) (hs : starEach [a, b] X.env = [(false, eval a X.env), (false, eval b X.env)] := by rfl) (hs2 : starEach [b] X.env = [(false, eval b X.env)] := by rfl) : PI X tg (.Call (.Name "range" p) [a, b] [] pos) (tI X.K (rng2F f g)) :=
  pi_w (pi_range2 hg hm ha hs hs2) fun σ H R ⟨S, ρ, ds, h1, h2, h3⟩ => by
    obtain ⟨d, h4, h5⟩ := Option.bind_eq_some_iff.mp h2
    obtain ⟨d', h6, h7⟩ := Option.bind_eq_some_iff.mp h5
    refine ⟨S, ρ, [d, d'], h1, args2 h4 h6, fun vs H' e r => ?_⟩
    cases d <;> cases d' <;> simp only [rng2D, reduceCtorEq] at h7
    rename_i n m
    split at h7
    · rename_i hz
      cases h7
      obtain ⟨v, w, rfl, r, r'⟩ := r.two
      have e1 := r.int; have e2 := r'.int
      subst e1 e2
      simp only [Bool.and_eq_true, okR_iff, decide_eq_true_eq] at hz
      exact ⟨n, m, rfl, ⟨hz.1.1.1, hz.1.1.2, hz.1.2.1, hz.1.2.2⟩, h3 _ H' e ⟨by simpa [rngL] using hz.2, fun S' H2 e2 hs => it_rng⟩⟩
    · cases h7
/-! range(a, b, -1) -/
def dwnL (lo : Int) (n : Nat) : List D := (List.range n).map fun (k : Nat) => .int (lo + (k : Int) * (-1))
def rng3D : D → D → D → Option (List D)
  | .int a, .int b, .int c => if okR a && okR b && decide (c = -1) && decide ((a - b).toNat ≤ sizeLine) then some (dwnL a (a - b).toNat) else none
  | _, _, _ => none
def rng3F (f g h : Rho → Option D) : Rho → Option (List D) := fun ρ => (f ρ).bind fun a => (g ρ).bind fun b => (h ρ).bind fun c => rng3D a b c
theorem it_dwn {S' : AS} {H' : Hp} {lo : Int} {n : Nat} : (Itc lo (-1) n).stop (dwnL lo n).length H' ∧ ∀ (i : Nat) d, (dwnL lo n)[i]? = some d → (Itc lo (-1) n).go i H' ∧ ∀ x H2, (Itc lo (-1) n).yld i H' x H2 → Same H' H2 ∧ Rp K (hide S' H2) x d := by
  refine ⟨by simp [Itc, dwnL], fun i d hd => ?_⟩
  unfold dwnL at hd
  rw [List.getElem?_map] at hd
  obtain ⟨k, h1, h2⟩ := Option.map_eq_some_iff.mp hd
  subst h2
  have hi : i < n := by simpa using (List.getElem?_eq_some_iff.mp h1).1
  have hk : k = i := by rw [List.getElem?_range hi] at h1; exact (Option.some.inj h1).symm
  subst hk
  refine ⟨hi, fun x H2 ⟨e, ex⟩ => ?_⟩
  subst e ex
  exact ⟨Same.refl _, .int _⟩
theorem AllT.three {S : AS} {H : Hp} {vs : List V} {d e c : D} (h : AllT K S H vs [d, e, c]) : ∃ v w u, vs = [v, w, u] ∧ DpT K S H v d ∧ DpT K S H w e ∧ DpT K S H u c := by
  cases h with
  | cons h t =>
    obtain ⟨w, u, rfl, h1, h2⟩ := AllT.two t
    exact ⟨_, w, u, rfl, h, h1, h2⟩
theorem gi_range3 {a b c : Expr} {g h : Rho → Option D} (hg : Gl X "range") (hm : X.mg "range" = none) (ha : PA X [a, b, c] (aT X.K [f, g, h])) (hs : starEach [a, b, c] X.env = (false, eval a X.env) :: starEach [b, c] X.env := by rfl) (hpl : (backTo pos (starEach [b, c] X.env)).any (·.1) = false := by rfl) : PI X tg (.Call (.Name "range" p) [a, b, c] [] pos) (tI X.K (rng3F f g h)) :=
  pi_w (pi_range3 hg hm ha hs hpl) fun σ H R ⟨S, ρ, ds, h1, h2, h3⟩ => by
    obtain ⟨d, h4, h5⟩ := Option.bind_eq_some_iff.mp h2
    obtain ⟨d', h6, h7⟩ := Option.bind_eq_some_iff.mp h5
    obtain ⟨d'', h8, h9⟩ := Option.bind_eq_some_iff.mp h7
    refine ⟨S, ρ, [d, d', d''], h1, args3 h4 h6 h8, fun vs H' e r => ?_⟩
    cases d <;> cases d' <;> cases d'' <;> simp only [rng3D, reduceCtorEq] at h9
    rename_i n m c
    split at h9
    · rename_i hz
      cases h9
      obtain ⟨v, w, u, rfl, r, r', r''⟩ := r.three
      have e1 := r.int; have e2 := r'.int; have e3 := r''.int
      subst e1 e2 e3
      simp only [Bool.and_eq_true, okR_iff, decide_eq_true_eq] at hz
      obtain ⟨⟨⟨hn, hm⟩, hc⟩, hzl⟩ := hz
      subst hc
      exact ⟨n, m, -1, _, rfl, RgC.neg hn.1 hn.2 hm.1 hm.2, h3 _ H' e ⟨by simpa [dwnL] using hzl, fun S' H2 e2 hs => it_dwn⟩⟩
    · cases h9
/-! enumerate of a list, zip, reversed -/
def enuL (ds : List D) : List D := ds.mapIdx fun i d => .tuple [.int (i : Nat), d]
def lstO : D → Option (List D)
  | .list ds => some ds
  | _ => none
def enuF (f : Rho → Option D) : Rho → Option (List D) := fun ρ => ((f ρ).bind lstO).map enuL
theorem it_enu {S' : AS} {H' : Hp} {a : Addr} {vs : List V} {ds : List D} (hs : HidOk S' H') (h : H' a = some (.lst vs)) (r : RpAll K (hide S' H') vs ds) : (Ite K a).stop (enuL ds).length H' ∧ ∀ (i : Nat) d, (enuL ds)[i]? = some d → (Ite K a).go i H' ∧ ∀ x H2, (Ite K a).yld i H' x H2 → Same H' H2 ∧ Rp K (hide S' H2) x d := by
  have h := SqL.of (K := K) h
  refine ⟨⟨vs, h, by simp [enuL, r.length]⟩, fun i d hd => ?_⟩
  unfold enuL at hd
  rw [List.getElem?_mapIdx] at hd
  obtain ⟨d', hd', ed⟩ := Option.map_eq_some_iff.mp hd
  subst ed
  obtain ⟨v, h1, h2⟩ := r.get hd'
  refine ⟨⟨vs, v, h, h1⟩, fun x H2 ⟨T, y, e1, e2, e3, e4⟩ => ?_⟩
  subst e1 e3
  have := e4 vs h
  rw [h1] at this
  cases this
  exact ⟨same_upd e2, Rp.newTup hs e2 (by show 2 ≤ sizeLine; decide) (.cons (.int _) (.cons h2 .nil))⟩
theorem gi_enum {elts : List Expr} {kk : Nat} {tpos : Pos} (hg : Gl X "enumerate") (hm : X.mg "enumerate" = none) (ha : PA X [e] (aE X.K [f])) (hs : starEach [e] X.env = [(false, eval e X.env)] := by rfl) : PI X (.Tuple elts kk tpos) (.Call (.Name "enumerate" p) [e] [] pos) (tI X.K (enuF f)) :=
  pi_w (pi_enum hg hm ha hs) fun σ H R ⟨S, ρ, ds, h1, h2, h3⟩ => by
    obtain ⟨zs, h4, h5⟩ := Option.map_eq_some_iff.mp h2
    obtain ⟨d, h6, h7⟩ := Option.bind_eq_some_iff.mp h4
    subst h5
    refine ⟨S, ρ, [d], h1, args1 h6, fun vs H' e r => ?_⟩
    cases d <;> simp only [lstO, reduceCtorEq] at h7
    cases h7
    cases r with
    | cons r t =>
      cases t
      cases r with
      | lst h z r => exact ⟨_, _, rfl, SqL.of (hide_sub.k h), h3 _ H' e ⟨by simp only [enuL, List.length_mapIdx]; rw [← r.length]; exact z, fun S' H2 e2 hs => it_enu hs (hide_iff.mp (e2.k h)).2 (RpAll.mono e2 r)⟩⟩
end

/-! ### for -/
def forL (p : D → Rho → Option Rho) (b : Rho → Option Out) : List D → Rho → Option Out
  | [], ρ => some (.nx ρ)
  | d :: ds, ρ => (p d ρ).bind fun ρ1 => match b ρ1 with
    | some (.nx ρ2) => forL p b ds ρ2
    | some (.ct ρ2) => forL p b ds ρ2
    | some (.bk ρ2) => some (.nx ρ2)
    | some (.rt x) => some (.rt x)
    | none => none
def forS (src : Rho → Option (List D)) (p : D → Rho → Option Rho) (b : Rho → Option Out) : Rho → Option Out := fun ρ => (src ρ).bind fun ds => forL p b ds ρ
section
variable {X : Cx} {tg iter : Expr} {body : List Stmt} {pos : Pos} {src : Rho → Option (List D)} {p : D → Rho → Option Rho} {b : Rho → Option Out}
theorem gs_for (hp : PassesOwn (model X.prog X.w) X.A X.env X.xe) (hc : X.calm = true) (hi : PI X tg iter (tI X.K src)) (hg : PG X tg (tG X.K p)) (hb : PSs X body (tS X.K b))
    (hs : ∀ x, foldedSetIterable iter X.env x = pure x := by intro _; rfl) : PS X (.For tg iter body [] pos) (tS X.K (forS src p b)) :=
  ps_w (ps_for hp hc hi hg hb hs) fun E σ H ⟨H0, S, ρ, out, q1, q2, q3⟩ => by
    obtain ⟨ds, h4, h5⟩ := Option.bind_eq_some_iff.mp q2
    refine ⟨_, ρ, ds, q1.eok, h4, fun J H1 e it => ?_⟩
    have q1' := q1.mono e
    -- the entry laid anew
    generalize hB : hide (fun a => ∃ i, OwnIx σ ρ i a) H1 = B
    have sB : SOk X.K B S H1 σ ρ := by rw [← hB]; exact q1'.rebase
    have eB : Same H0 B := by rw [← hB]; exact q1'.base_sub
    have post : Post X.K B S E out := by
      cases out with
      | rt d => exact fun v H' e' r => q3 v H' (eB.trans e') r
      | nx ρ' => exact fun σ' H' s => q3 σ' H' (s.unbase eB q1.hid0)
      | bk ρ' => exact fun σ' H' s => q3 σ' H' (s.unbase eB q1.hid0)
      | ct ρ' => exact fun σ' H' s => q3 σ' H' (s.unbase eB q1.hid0)
    have stay : ∀ {σ' : L2.St} {H' : Hp} {ρ' : Rho}, SOk X.K B S H' σ' ρ' → Same (hide (hidS S σ ρ) H1) (hide (hidS S σ' ρ') H') := fun s' => by
      rw [← hB] at s'; exact q1'.stay s'
    refine ⟨fun i m σ' H' => m = ds.length - i ∧ i ≤ ds.length ∧ ∃ ρ', SOk X.K B S H' σ' ρ' ∧ forL p b (ds.drop i) ρ' = some out, ⟨ds.length, by simp, Nat.zero_le _, ρ, sB, h5⟩, ?_⟩
    rintro i m σ' H' ⟨rfl, hi, ρ', s', hf⟩
    obtain ⟨hz, it⟩ := it
    obtain ⟨hstop, hgo⟩ := it _ H' (stay s') s'.hid
    by_cases hlt : i < ds.length
    · obtain ⟨d, hd⟩ : ∃ d, ds[i]? = some d := ⟨ds[i], by simp [hlt]⟩
      obtain ⟨g1, g2⟩ := hgo i d hd
      have edrop : ds.drop i = d :: ds.drop (i + 1) := by
        rw [List.drop_eq_getElem_cons hlt]
        congr 1
        rw [List.getElem?_eq_getElem hlt] at hd
        exact Option.some.inj hd
      rw [edrop] at hf
      obtain ⟨ρ1, f1, f2⟩ := Option.bind_eq_some_iff.mp hf
      refine .inr ⟨g1, fun σ2 H2 => ∃ ρ2, SOk X.K B S H2 σ2 ρ2 ∧ forL p b (ds.drop (i + 1)) ρ2 = some out, fun σ2 H2 ⟨ρ2, s2, f3⟩ => ⟨_, by omega, rfl, hlt, ρ2, s2, f3⟩, fun x H2 y => ?_⟩
      obtain ⟨e2, rx⟩ := g2 x H2 y
      refine ⟨B, S, ρ', d, ρ1, s'.mono e2, rx, f1, fun σ3 H3 s3 => ?_⟩
      cases hb1 : b ρ1 with
      | none => rw [hb1] at f2; cases f2
      | some o =>
        rw [hb1] at f2
        refine ⟨B, S, ρ1, o, s3, hb1, ?_⟩
        cases o with
        | nx ρ2 => exact fun σ4 H4 s4 => ⟨ρ2, s4, f2⟩
        | ct ρ2 => exact fun σ4 H4 s4 => ⟨ρ2, s4, f2⟩
        | bk ρ2 => cases f2; exact post
        | rt d => cases f2; exact post
    · have ei : i = ds.length := by omega
      subst ei
      rw [List.drop_length] at hf
      cases hf
      exact .inl ⟨hstop, post σ' H' s'⟩
end

/-! ### while: n turns at most -/
def whlL (c : Rho → Option Bool) (b : Rho → Option Out) : Nat → Rho → Option Out
  | 0, _ => none
  | n + 1, ρ => (c ρ).bind fun k => if k = true then (match b ρ with
      | some (.nx ρ2) => whlL c b n ρ2
      | some (.ct ρ2) => whlL c b n ρ2
      | some (.bk ρ2) => some (.nx ρ2)
      | some (.rt x) => some (.rt x)
      | none => none) else some (.nx ρ)
theorem whlL_more {c : Rho → Option Bool} {b : Rho → Option Out} {out : Out} : ∀ {n m : Nat} {ρ : Rho}, n ≤ m → whlL c b n ρ = some out → whlL c b m ρ = some out
  | 0, _, _, _, h => by cases h
  | n + 1, 0, _, hl, _ => by omega
  | n + 1, m + 1, ρ, hl, h => by
    unfold whlL at h ⊢
    obtain ⟨k, h1, h2⟩ := Option.bind_eq_some_iff.mp h
    rw [h1, Option.bind_some]
    cases k with
    | false => exact h2
    | true =>
      rw [if_pos rfl] at h2 ⊢
      cases hb : b ρ with
      | none => rw [hb] at h2; cases h2
      | some o =>
        rw [hb] at h2
        cases o with
        | nx ρ2 => exact whlL_more (by omega) h2
        | ct ρ2 => exact whlL_more (by omega) h2
        | bk ρ2 => exact h2
        | rt x => exact h2
section
variable {X : Cx} {c : Expr} {body : List Stmt} {pos : Pos} {bc : Rho → Option Bool} {b : Rho → Option Out}
theorem gs_while (n : Nat) (hp : PassesOwn (model X.prog X.w) X.A X.env X.xe) (hc : PT X c (tB X.K bc)) (hb : PSs X body (tS X.K b)) : PS X (.While c body [] pos) (tS X.K (whlL bc b n)) :=
  ps_w (ps_while hp hc hb) fun E σ H ⟨H0, S, ρ, out, q1, q2, q3⟩ => by
    refine ⟨fun m σ' H' => ∃ ρ', SOk X.K H0 S H' σ' ρ' ∧ whlL bc b m ρ' = some out, ⟨n, ρ, q1, q2⟩, ?_⟩
    rintro m σ' H' ⟨ρ', s', hf⟩
    cases m with
    | zero => cases hf
    | succ m =>
      obtain ⟨k, h1, h2⟩ := Option.bind_eq_some_iff.mp hf
      refine ⟨_, ρ', k, s'.eok, h1, fun H2 e2 => ?_⟩
      cases k with
      | false =>
        cases h2
        exact q3 σ' H2 (s'.mono e2)
      | true =>
        refine ⟨fun σ2 H2 => ∃ ρ', SOk X.K H0 S H2 σ2 ρ' ∧ whlL bc b m ρ' = some out, fun σ2 H2 q => ⟨m, Nat.lt_succ_self m, q⟩, ?_⟩
        rw [if_pos rfl] at h2
        cases hb1 : b ρ' with
        | none => rw [hb1] at h2; cases h2
        | some o =>
          rw [hb1] at h2
          refine ⟨H0, S, ρ', o, s'.mono e2, hb1, ?_⟩
          cases o with
          | nx ρ2 => exact fun σ4 H4 s4 => ⟨ρ2, s4, h2⟩
          | ct ρ2 => exact fun σ4 H4 s4 => ⟨ρ2, s4, h2⟩
          | bk ρ2 => cases h2; exact q3
          | rt d => cases h2; exact q3
end
end PF

set_option Elab.async false
set_option linter.all false
set_option maxRecDepth 100000
/-! PF6: comprehensions. -/
namespace PF
open PySem PySem.Spec PyProof.Rows L2
variable [Tabs]

/-! ### targets within a block -/
def Agree (js : List Nat) (σ σ' : L2.St) : Prop := σ'.length = σ.length ∧ ∀ j, j ∉ js → σ'[j]? = σ[j]?
theorem Agree.refl (js : List Nat) (σ : L2.St) : Agree js σ σ := ⟨rfl, fun _ _ => rfl⟩
theorem Agree.trans {js : List Nat} {a b c : L2.St} (h : Agree js a b) (k : Agree js b c) : Agree js a c := ⟨k.1.trans h.1, fun j hj => (k.2 j hj).trans (h.2 j hj)⟩
theorem Agree.more {js ks : List Nat} {a b : L2.St} (h : Agree js a b) (s : ∀ j ∈ js, j ∈ ks) : Agree ks a b := ⟨h.1, fun j hj => h.2 j fun z => hj (s j z)⟩
theorem wipe_at {σ : L2.St} : ∀ {vs : List Nat} {j : Nat}, (wipe σ vs)[j]? = if j ∈ vs then (if j < σ.length then some none else none) else σ[j]?
  | [], j => by simp [wipe]
  | v :: vs, j => by
    have hl : (wipe σ vs).length = σ.length := wipe_length σ vs
    unfold wipe
    by_cases e : v = j
    · subst e
      simp only [List.mem_cons, true_or, if_true]
      by_cases h : v < σ.length
      · rw [if_pos h, List.getElem?_set_self (by rw [hl]; exact h)]
      · rw [if_neg h, List.getElem?_eq_none (by simpa [hl] using h)]
    · rw [List.getElem?_set_ne e, wipe_at]
      have : (j ∈ v :: vs) ↔ j ∈ vs := by simp [Ne.symm e]
      simp only [this]
theorem Agree.wipe {js : List Nat} {σ σ' : L2.St} (h : Agree js (wipe σ js) σ') : L2.wipe σ' js = L2.wipe σ js := by
  apply List.ext_getElem?
  intro j
  rw [wipe_at, wipe_at]
  have hl : σ'.length = σ.length := by rw [h.1, wipe_length]
  rw [hl]
  by_cases hj : j ∈ js
  · simp [hj]
  · simp only [hj, if_false]
    rw [h.2 j hj, wipe_at, if_neg hj]
theorem kill_at {ρ : Rho} : ∀ {vs : List Nat} {j : Nat} {s : Sl}, (kill vs ρ)[j]? = some (some s) → j ∉ vs ∧ ρ[j]? = some (some s) := by
  intro vs
  induction vs generalizing ρ with
  | nil => intro j s h; exact ⟨by simp, h⟩
  | cons v vs ih =>
    intro j s h
    obtain ⟨h1, h2⟩ := ih (ρ := ρ.set v none) h
    by_cases e : v = j
    · subst e
      by_cases hl : v < ρ.length
      · rw [List.getElem?_set_self hl] at h2; cases h2
      · rw [List.getElem?_eq_none (by simpa using hl)] at h2; cases h2
    · rw [List.getElem?_set_ne e] at h2
      exact ⟨by simp [Ne.symm e, h1], h2⟩
theorem EOk.wiped {K : PySem.W.Frag} {S : AS} {H : Hp} {σ : L2.St} {ρ : Rho} (vs : List Nat) (h : EOk K S H σ ρ) : EOk K S H (wipe σ vs) (kill vs ρ) :=
  ⟨by rw [kill_length, wipe_length]; exact h.len, h.hid, fun i s q => by
    obtain ⟨h1, h2⟩ := kill_at q
    obtain ⟨v, h3, h4⟩ := h.sl i s h2
    exact ⟨v, by rw [wipe_at, if_neg h1]; exact h3, h4⟩⟩
theorem EOk.setVal {K : PySem.W.Frag} {S : AS} {H : Hp} {σ : L2.St} {ρ : Rho} (h : EOk K S H σ ρ) {i : Nat} {v : V} {d : D} (r : Rp K (hide S H) v d) : EOk K S H (σ.set i (some v)) (ρ.set i (some (.val d))) :=
  ⟨by simpa using h.len, h.hid, fun j s q => by
    by_cases e : i = j
    · subst e
      have hlt : i < ρ.length := by simpa using (List.getElem?_eq_some_iff.mp q).1
      rw [List.getElem?_set_self hlt] at q
      cases q
      exact ⟨v, by rw [List.getElem?_set_self (Nat.lt_of_lt_of_le hlt h.len)], r⟩
    · rw [List.getElem?_set_ne e] at q
      obtain ⟨w, h1, h2⟩ := h.sl j s q
      exact ⟨w, by rw [List.getElem?_set_ne e]; exact h1, h2⟩⟩
/-- more hidden, a larger heap -/
theorem EOk.grow {K : PySem.W.Frag} {S S' : AS} {H H' : Hp} {σ : L2.St} {ρ : Rho} (h : EOk K S H σ ρ) (e : Same H H') (k : Same (hide S H) (hide S' H')) (hs : HidOk S' H') : EOk K S' H' σ ρ :=
  ⟨h.len, hs, fun i s q => by
    obtain ⟨v, h1, h2⟩ := h.sl i s q
    refine ⟨v, h1, ?_⟩
    cases s with
    | val d => exact Rp.mono k h2
    | scr ns =>
      obtain ⟨a', h3', h4', h5'⟩ := h2
      exact ⟨a', h3', k.seq h4', h5'⟩
    | own ds =>
      obtain ⟨a, vs, e1, e2, z, e3⟩ := h2
      exact ⟨a, vs, e1, e.k e2, z, RpAll.mono k e3⟩⟩
def tC' (K : PySem.W.Frag) (js : List Nat) (p : D → Rho → Option Rho) : TG := fun v σ H Q => ∃ S ρ d ρ', EOk K S H σ ρ ∧ Rp K (hide S H) v d ∧ p d ρ = some ρ' ∧ ∀ σ', EOk K S H σ' ρ' → Agree js σ σ' → Q σ' H
def tCs (K : PySem.W.Frag) (js : List Nat) (p : List D → Rho → Option Rho) : TGs := fun vs σ H Q => ∃ S ρ ds ρ', EOk K S H σ ρ ∧ RpAll K (hide S H) vs ds ∧ p ds ρ = some ρ' ∧ ∀ σ', EOk K S H σ' ρ' → Agree js σ σ' → Q σ' H
section
variable {X : Cx} {K : PySem.W.Frag} {e : Expr} {es : List Expr} {pos : Pos}
theorem gc_name {i : Nat} (h : PG X e (gName i)) : PG X e (tC' K [i] (namP i)) := pg_w h fun v σ H Q ⟨S, ρ, d, ρ', q1, q2, q3, q4⟩ => by
  cases q3
  exact q4 _ (q1.setVal q2) ⟨by simp, fun j hj => by rw [List.getElem?_set_ne (by simpa using fun z => hj (by simp [z]))]⟩
theorem gcs_nil : PGs X [] (tCs K [] nilP) := pgs_w pgs_nil fun v σ H Q ⟨S, ρ, ds, ρ', q1, q2, q3, q4⟩ => by
  cases q2 with
  | nil => cases q3; exact ⟨rfl, q4 _ q1 (Agree.refl _ _)⟩
  | cons _ _ => cases q3
theorem gcs_cons {p : D → Rho → Option Rho} {q : List D → Rho → Option Rho} {js ks : List Nat} (h1 : PG X e (tC' K js p)) (h2 : PGs X es (tCs K ks q))
    (hs : (assignEach (e :: es) X.env).map (·.2) = assign e X.env :: (assignEach es X.env).map (·.2) := by rfl) : PGs X (e :: es) (tCs K (js ++ ks) (consP p q)) := pgs_w (pgs_cons h1 h2 hs) fun v σ H Q ⟨S, ρ, ds, ρ', q1, q2, q3, q4⟩ => by
  cases q2 with
  | nil => cases q3
  | @cons w ws d es' r rr =>
    obtain ⟨ρ1, h3, h4⟩ := Option.bind_eq_some_iff.mp q3
    exact ⟨w, ws, rfl, S, ρ, d, ρ1, q1, r, h3, fun σ1 s1 a1 => ⟨S, ρ1, es', ρ', s1, rr, h4, fun σ2 s2 a2 => q4 σ2 s2 ((a1.more fun j hj => List.mem_append_left _ hj).trans (a2.more fun j hj => List.mem_append_right _ hj))⟩⟩
theorem gc_tup {k n : Nat} {js : List Nat} {q : List D → Rho → Option Rho} (hc : X.calm = true) (h : PGs X es (tCs X.K js q))
    (hn : (assignEach es X.env).length = n := by rfl) (hst : (assignEach es X.env).findIdx? (·.1) = none := by rfl) : PG X (.Tuple es k pos) (tC' X.K js (tupP n q)) := pg_w (pg_tup hc h hn hst) fun v σ H Q ⟨S, ρ, d, ρ', q1, q2, q3, q4⟩ => by
  cases d <;> simp only [tupP, reduceCtorEq] at q3
  rename_i ds
  split at q3
  · rename_i hl
    cases q2 with
    | tup h z r => exact ⟨_, _, rfl, sqT_mono hide_sub h, by rw [r.length]; exact hl, S, ρ, ds, ρ', q1, r, q3, q4⟩
  · cases q3
/-! ### tests -/
def yesB : Rho → Option Bool := fun _ => some true
theorem pts_w {ifs : List Expr} {t t' : TT} (h : PTs X ifs t) (w : ∀ σ H Q, t' σ H Q → t σ H Q) : PTs X ifs t' := ⟨fun pins s σ H Q I q => h.run pins s σ H Q I (w _ _ _ q)⟩
theorem gts_nil : PTs X [] (tB K yesB) := pts_w pts_nil fun σ H Q ⟨S, ρ, b, h1, h2, h3⟩ => by cases h2; exact h3 H (Same.refl H)
theorem gts_one {c : Expr} {b : Rho → Option Bool} (h : PT X c (tB K b)) : PTs X [c] (tB K b) := pts_one h
end

/-! ### [f for p in src if t] -/
def compL (p : D → Rho → Option Rho) (t : Rho → Option Bool) (f : Rho → Option D) (ρ : Rho) : List D → Option (List D)
  | [] => some []
  | d :: ds => (p d ρ).bind fun ρ1 => (t ρ1).bind fun b => if b = true then (f ρ1).bind fun y => (compL p t f ρ ds).map fun ys => y :: ys else compL p t f ρ ds
def compF (vs : List Nat) (src : Rho → Option (List D)) (p : D → Rho → Option Rho) (t : Rho → Option Bool) (f : Rho → Option D) : Rho → Option D := fun ρ => (src ρ).bind fun ds => (compL p t f (kill vs ρ) ds).map .list
theorem hid_D {S : AS} {H H1 H' : Hp} {Da : Addr} (e : Same H H1) (n : H1 Da = none) (e' : Same H1 H') : Same (hide S H) (hide (fun p => S p ∨ p = Da) H') :=
  hide_to (e.trans e') fun p hp => hp.imp id fun z => by rw [z]; exact e.free n
theorem tLc_of {K : PySem.W.Frag} {src : Rho → Option (List D)} {p : D → Rho → Option Rho} {t : Rho → Option Bool} {f : Rho → Option D} {js vs : List Nat} (hj : ∀ j ∈ js, j ∈ vs) :
    ∀ σ H Q, tF K (compF vs src p t f) σ H Q → tLc (tJ K src) (tC' K js p) (tB K t) (tE K f) vs σ H Q := fun σ H Q ⟨S, ρ, d, h1, h2, h3⟩ => by
  obtain ⟨ds, h4, h5⟩ := Option.bind_eq_some_iff.mp h2
  obtain ⟨zs, h6, h7⟩ := Option.map_eq_some_iff.mp h5
  subst h7
  refine ⟨S, ρ, ds, h1, h4, fun J H1 e1 it Da hD => ?_⟩
  obtain ⟨hz, it⟩ := it
  have hDH : H Da = none := e1.free hD
  refine ⟨fun i m H' => m = ds.length - i ∧ i ≤ ds.length ∧ Same H1 H' ∧ ∃ acc done more, H' Da = some (.lst acc) ∧ RpAll K (hide (fun p => S p ∨ p = Da) H') acc done ∧ done.length ≤ i ∧ compL p t f (kill vs ρ) (ds.drop i) = some more ∧ done ++ more = zs,
    ⟨ds.length, by simp, Nat.zero_le _, same_upd hD, [], [], zs, upd_same, .nil, Nat.zero_le _, h6, rfl⟩, ?_⟩
  rintro i m H' ⟨rfl, hi, e', acc, done, more, ha, hr, hl, hc, hcat⟩
  have hs' : HidOk (fun p => S p ∨ p = Da) H' := ⟨fun p hp => by
    rcases hp with hp | hp
    · exact (h1.hid.mono (e1.trans e')).at_ p hp
    · rw [hp]; exact ⟨_, ha, rfl⟩, (h1.hid.mono (e1.trans e')).tab⟩
  have k1 : Same (hide S H1) (hide (fun p => S p ∨ p = Da) H') := hid_D (Same.refl H1) hD e'
  obtain ⟨hstop, hgo⟩ := it _ H' k1 e' hs'
  by_cases hlt : i < ds.length
  · obtain ⟨d, hd⟩ : ∃ d, ds[i]? = some d := ⟨ds[i], by simp [hlt]⟩
    obtain ⟨g1, g2⟩ := hgo i d hd
    have edrop : ds.drop i = d :: ds.drop (i + 1) := by
      rw [List.drop_eq_getElem_cons hlt]
      congr 1
      rw [List.getElem?_eq_getElem hlt] at hd
      exact Option.some.inj hd
    rw [edrop] at hc
    obtain ⟨ρ1, c1, c2⟩ := Option.bind_eq_some_iff.mp hc
    obtain ⟨b, c3, c4⟩ := Option.bind_eq_some_iff.mp c2
    refine .inr ⟨g1, fun H2 => Same H1 H2 ∧ ∃ acc done more, H2 Da = some (.lst acc) ∧ RpAll K (hide (fun p => S p ∨ p = Da) H2) acc done ∧ done.length ≤ i + 1 ∧ compL p t f (kill vs ρ) (ds.drop (i + 1)) = some more ∧ done ++ more = zs,
      fun H2 q => ⟨_, by omega, rfl, hlt, q⟩, fun x H2 y => ?_⟩
    obtain ⟨e2, rx⟩ := g2 x H2 y
    have e12 := e'.trans e2
    have hs2 := hs'.mono e2
    have eb : EOk K (fun p => S p ∨ p = Da) H2 (wipe σ vs) (kill vs ρ) := (h1.wiped vs).grow (e1.trans e12) (hid_D e1 hD e12) hs2
    refine ⟨_, kill vs ρ, d, ρ1, eb, rx, c1, fun σ2 s2 a2 => ⟨Agree.wipe (a2.more hj), ?_⟩⟩
    refine ⟨_, ρ1, b, s2, c3, fun H3 e3 => ?_⟩
    cases b with
    | false =>
      rw [if_neg (by decide)] at c4
      show Same H1 H3 ∧ _
      exact ⟨e12.trans e3, acc, done, more, e3.k (e2.k ha), RpAll.mono (hide_mono (e2.trans e3)) hr, by omega, c4, hcat⟩
    | true =>
      rw [if_pos rfl] at c4
      obtain ⟨yd, c5, c6⟩ := Option.bind_eq_some_iff.mp c4
      obtain ⟨ys, c7, c8⟩ := Option.map_eq_some_iff.mp c6
      show tE K f σ2 H3 _
      refine ⟨_, ρ1, yd, s2.mono e3, c5, fun y H4 e4 ry => ⟨acc, e4.k (e3.k (e2.k ha)), ?_, ?_⟩⟩
      · rw [hr.length]; omega
      · have e24 := (e2.trans e3).trans e4
        have hu : Same (hide (fun p => S p ∨ p = Da) H4) (hide (fun p => S p ∨ p = Da) (upd H4 Da (.lst (acc ++ [y])))) := Same.of fun q u z => by
          have := hide_iff.mp z
          have ne : q ≠ Da := fun w => this.1 (.inr w)
          exact hide_iff.mpr ⟨this.1, by rw [upd_ne ne]; exact this.2⟩
        refine ⟨((e12.trans e3).trans e4).write hD, acc ++ [y], done ++ [yd], ys, upd_same, RpAll.mono hu ((RpAll.mono (hide_mono e24) hr).append (.cons ry .nil)), by simp; omega, c7, by rw [← hcat, ← c8]; simp⟩
  · have ei : i = ds.length := by omega
    subst ei
    rw [List.drop_length] at hc
    cases hc
    refine .inl ⟨hstop, h3 _ H' (e1.trans e') ⟨zs, rfl, Da, acc, rfl, hDH, ha, ?_, ?_⟩⟩
    · rw [hr.length]; omega
    · rw [List.append_nil] at hcat; subst hcat; exact hr
section
variable {X : Cx} {elt tg iter : Expr} {ifs : List Expr} {scope : Scope} {own : List (Str × Nat)} {pos : Pos} {src : Rho → Option (List D)} {p : D → Rho → Option Rho} {t : Rho → Option Bool} {f : Rho → Option D} {js : List Nat}
theorem g_comp {vs : List Nat} (hc : X.calm = true) (hN : X.N.Nodup) (hi : PI X tg iter (tJ X.K src)) (ok : BlkOk X.N X.env.scope scope own)
    (hg : ∀ (s : Shared) (H : Hp) (C : Addr) (cl : List (Str × Addr)) (fp : List Addr), PG (X.blk s H scope (compEnvC scope cl C X.env) fp) tg (tC' X.K js p))
    (ht : ∀ (s : Shared) (H : Hp) (C : Addr) (cl : List (Str × Addr)) (fp : List Addr), PTs (X.blk s H scope (compEnvC scope cl C X.env) fp) ifs (tB X.K t))
    (he : ∀ (s : Shared) (H : Hp) (C : Addr) (cl : List (Str × Addr)) (fp : List Addr), PE (X.blk s H scope (compEnvC scope cl C X.env) fp) elt (tE X.K f))
    (hj : (js.all fun j => (own.map (·.2)).contains j) = true := by decide) (hs : ∀ x, foldedSetIterable iter X.env x = pure x := by intro _; rfl) (hv : own.map (·.2) = vs := by rfl) :
    PE X (.ListComp elt [⟨tg, iter, ifs, 0⟩] scope pos) (tF X.K (compF vs src p t f)) := by
  subst hv
  exact pe_w (pe_lc hc hN hi ok hg ht he hs) (tLc_of fun j hj' => by
    have := List.all_eq_true.mp hj j hj'
    simpa using this)
/-- x = [..], x kept as data or as an own list -/
theorem gs_setLc {vs : List Nat} {i : Nat} {y : Str} {py spos : Pos} (hc : X.calm = true) (hN : X.N.Nodup) (hy : X.N[i]? = some y) (hyl : X.env.scope.names.lookup y = some .local)
    (hsw : swapsWith (.ListComp elt [⟨tg, iter, ifs, 0⟩] scope pos) (some (.Name y py)) spos.line X.env = pure true) (hi : PI X tg iter (tJ X.K src)) (ok : BlkOk X.N X.env.scope scope own)
    (hg : ∀ (s : Shared) (H : Hp) (C : Addr) (cl : List (Str × Addr)) (fp : List Addr), PG (X.blk s H scope (compEnvC scope cl C X.env) fp) tg (tC' X.K js p))
    (ht : ∀ (s : Shared) (H : Hp) (C : Addr) (cl : List (Str × Addr)) (fp : List Addr), PTs (X.blk s H scope (compEnvC scope cl C X.env) fp) ifs (tB X.K t))
    (he : ∀ (s : Shared) (H : Hp) (C : Addr) (cl : List (Str × Addr)) (fp : List Addr), PE (X.blk s H scope (compEnvC scope cl C X.env) fp) elt (tE X.K f))
    (hj : (js.all fun j => (own.map (·.2)).contains j) = true := by decide) (hs : ∀ x, foldedSetIterable iter X.env x = pure x := by intro _; rfl) (hv : own.map (·.2) = vs := by rfl) :
    PS X (.Assign [.Name y py] (.ListComp elt [⟨tg, iter, ifs, 0⟩] scope pos) spos) (tS X.K (asgS i (compF vs src p t f))) ∧
    PS X (.Assign [.Name y py] (.ListComp elt [⟨tg, iter, ifs, 0⟩] scope pos) spos) (tS X.K (ownS i (compF vs src p t f))) := by
  subst hv
  have hj' : ∀ j ∈ js, j ∈ own.map (·.2) := fun j hj' => by
    have := List.all_eq_true.mp hj j hj'
    simpa using this
  have base := ps_setLc (i := i) hc hN hy hyl hsw hi ok hg ht he hs
  have w : PS X (.Assign [.Name y py] (.ListComp elt [⟨tg, iter, ifs, 0⟩] scope pos) spos) (tAsg (tF X.K (compF (own.map (·.2)) src p t f)) (gName i)) := ps_w base fun E σ H q => tLc_of hj' σ H _ q
  refine ⟨ps_w w fun E σ H q => ?_, ps_w w tOwn_of⟩
  have := tAsg_of E σ H q
  obtain ⟨S, ρ, d, h1, h2, h3⟩ := this
  exact ⟨S, ρ, d, h1, h2, fun v H' e ⟨ds, ed, r⟩ => by subst ed; exact h3 v H' e (r.clean h1.hid e)⟩
end
end PF

set_option Elab.async false
set_option linter.all false
set_option maxRecDepth 100000
/-! PF7: built-ins upon data: in, sum, min, max, all, any, sorted, isinstance. -/
namespace PF
open PySem PySem.Spec PyProof.Rows L2
variable [Tabs]

theorem room100 {k : Nat} {A : Around} (r : Room k A) : A.units + 100 < cLine := by have := r.un; omega
/-! ### in -/
section
variable {X : Cx} {K : PySem.W.Frag}
def rInA (K : PySem.W.Frag) (neg : Bool) : R2 := fun x y H Q => ∃ d ds, Dp K H x d ∧ (Dp K H y (.list ds) ∨ Dp K H y (.tuple ds)) ∧ SeqAt.shaped d = true ∧ SeqAt.shaped (.list ds) = true ∧ Q (.bl (if neg then !(ds.any fun z => PyData.eqv z d) else ds.any fun z => PyData.eqv z d)) H
theorem shaped_seq {ds : List D} (h : SeqAt.shaped (.list ds) = true) : PyData.canLayAll0 ds = true := by
  have := SeqAt.canLay_of_shaped h
  simpa [PyData.canLay0] using this
theorem op_inA (hu : X.A.units + 100 < cLine) : OpR X (compareOp .In) (rInA X.K false) := by
  intro pins s σ H x y v u Q I rx ry h
  obtain ⟨d, ds, hd, he, sd, se, q⟩ := h
  obtain ⟨as, r1⟩ := Dp.reads I d x v hd rx
  rcases he with he | he
  · obtain ⟨bs, r2⟩ := Dp.reads I (.list ds) y u he ry
    exact SeqAt.in_list_reads r2 r1 (shaped_seq se) (SeqAt.canLay_of_shaped sd) (room_in_shaped sd (by omega)) ⟨.bl _, H, I, rfl, q⟩
  · obtain ⟨bs, r2⟩ := Dp.reads I (.tuple ds) y u he ry
    exact SeqAt.in_tuple_reads r2 r1 (shaped_seq se) (SeqAt.canLay_of_shaped sd) (room_in_shaped sd (by omega)) ⟨.bl _, H, I, rfl, q⟩
theorem op_notInA (hu : X.A.units + 100 < cLine) : OpR X (compareOp .NotIn) (rInA X.K true) := by
  intro pins s σ H x y v u Q I rx ry h
  obtain ⟨d, ds, hd, he, sd, se, q⟩ := h
  obtain ⟨as, r1⟩ := Dp.reads I d x v hd rx
  rcases he with he | he
  · obtain ⟨bs, r2⟩ := Dp.reads I (.list ds) y u he ry
    exact SeqAt.notIn_list_reads r2 r1 (shaped_seq se) (SeqAt.canLay_of_shaped sd) (room_in_shaped sd (by omega)) ⟨.bl _, H, I, rfl, q⟩
  · obtain ⟨bs, r2⟩ := Dp.reads I (.tuple ds) y u he ry
    exact SeqAt.notIn_tuple_reads r2 r1 (shaped_seq se) (SeqAt.canLay_of_shaped sd) (room_in_shaped sd (by omega)) ⟨.bl _, H, I, rfl, q⟩
def ltO : D → Option (List D)
  | .list ds => some ds
  | .tuple ds => some ds
  | _ => none
def inD (a b : D) : Option D := (ltO b).bind fun ds => if SeqAt.shaped a && SeqAt.shaped (.list ds) then some (.bool (ds.any fun z => PyData.eqv z a)) else none
def notInD (a b : D) : Option D := (ltO b).bind fun ds => if SeqAt.shaped a && SeqAt.shaped (.list ds) then some (.bool (!ds.any fun z => PyData.eqv z a)) else none
theorem os_in : OpS K (rInA K false) inD := by
  intro S H x y a b d Q hs ha hb hg k
  obtain ⟨ds, h1, h2⟩ := Option.bind_eq_some_iff.mp hg
  split at h2
  · rename_i hz
    cases h2
    simp only [Bool.and_eq_true] at hz
    refine ⟨a, ds, ha.all.dp, ?_, hz.1, hz.2, k _ H (Same.refl H) (.bl _)⟩
    cases b <;> simp only [ltO, reduceCtorEq] at h1 <;> cases h1
    · exact .inl hb.all.dp
    · exact .inr hb.all.dp
  · cases h2
theorem os_notIn : OpS K (rInA K true) notInD := by
  intro S H x y a b d Q hs ha hb hg k
  obtain ⟨ds, h1, h2⟩ := Option.bind_eq_some_iff.mp hg
  split at h2
  · rename_i hz
    cases h2
    simp only [Bool.and_eq_true] at hz
    refine ⟨a, ds, ha.all.dp, ?_, hz.1, hz.2, k _ H (Same.refl H) (.bl _)⟩
    cases b <;> simp only [ltO, reduceCtorEq] at h1 <;> cases h1
    · exact .inl hb.all.dp
    · exact .inr hb.all.dp
  · cases h2
end

/-! ### sum, max, min of ints; all, any of bools: a list or a tuple -/
section
variable {prog : Program} {w : World} {A : Around} {E : Value → Shared → Prop} {s : Shared} {l : Addr} {its : List Value} {ns : List Int} {Q : Value → Shared → Prop}
theorem iter_tup {items : Array Value} (hl : s.heap.IsTuple l items)
    (h : ∀ s₂ : Shared, s₂ = { s with heap := s.heap.push { cls := .type "tuple_iterator", data := .fields #[.ref l, .int 0 0] } } →
      (s₂.heap.IsTupleIter s.heap.objs.size l 0 ∧ s₂.heap.IsTuple l items) → (∀ b ∈ [s.heap.objs.size, l], b < s₂.heap.objs.size) → l ≠ s.heap.objs.size → Q (.ref s.heap.objs.size) s₂) :
    wpAny (model prog w) A (pyIter (.ref l)) Q E s := by
  have hlt : l < s.heap.objs.size := by obtain ⟨_, e, _⟩ := hl; exact Heap.lt_size e
  refine wpAny_pyIter_tuple hl (h _ rfl ⟨⟨_, Heap.get?_push_size _ rfl, rfl, rfl⟩, hl.push _⟩ (fun b hb => ?_) (Nat.ne_of_lt hlt))
  show b < (s.heap.push _).objs.size
  rw [Heap.size_push]
  rcases List.mem_cons.mp hb with rfl | hb
  · exact Nat.lt_succ_self _
  · rcases List.mem_cons.mp hb with rfl | hb
    · exact Nat.lt_succ_of_lt hlt
    · cases hb
theorem keptT {h' : Heap} {ob : Obj} (hk : ∀ b o, b ∉ [s.heap.objs.size] → (s.heap.push ob).get? b = some o → h'.get? b = some o) :
    ∀ b o, s.heap.get? b = some o → h'.get? b = some o := fun b o e => by
  refine hk b o (fun hm => ?_) (Heap.get?_push_of_some _ e)
  rcases List.mem_cons.mp hm with e1 | hm
  · exact absurd (e1 ▸ Heap.lt_size e) (Nat.lt_irrefl _)
  · cases hm
theorem sum_rawT (hh : A.handled = none) (hl : s.heap.IsTuple l its.toArray) (hi : IntsAre its ns)
    (h : ∀ h' tk t', (∀ b o, s.heap.get? b = some o → h'.get? b = some o) → Q (.int ns.sum t') { s with heap := h', toks := tk }) : wpAny (model prog w) A (call (.builtin "sum") [.ref l]) Q E s := by
  obtain ⟨xs, e⟩ := hi.allInts.items
  have hn : numsOf (intItems xs).toList = ns := by rw [← e]; exact hi.numsOf
  rw [nums_intItems] at hn
  rw [e] at hl
  refine call_sum_walkG (iter_tup hl fun s₂ e st hfp hlI => ?_)
  subst e
  refine ⟨_, _, _, _, _, _, numAt xs, rfl, Walks.tuple (A := A.in1) hh _ l hlI (intItems xs), st, hfp, (fun _ _ => intItems_at), fun h' tk t' hk => ?_⟩
  have := h h' tk t' (keptT hk)
  have e2 : preSum (numAt xs) (intItems xs).size = ns.sum := by
    rw [preSum_eq, List.take_of_length_le (by simp [intItems]), hn]
  rw [e2]; exact this
theorem max_rawT (hh : A.handled = none) (hl : s.heap.IsTuple l its.toArray) (hi : IntsAre its ns) (hne : 0 < ns.length)
    (h : ∀ h' tk M t', (∀ b o, s.heap.get? b = some o → h'.get? b = some o) → M ∈ ns → (∀ a, a ∈ ns → a ≤ M) → Q (.int M t') { s with heap := h', toks := tk }) : wpAny (model prog w) A (call (.builtin "max") [.ref l]) Q E s := by
  obtain ⟨xs, e⟩ := hi.allInts.items
  have hn : numsOf (intItems xs).toList = ns := by rw [← e]; exact hi.numsOf
  rw [nums_intItems] at hn
  subst hn
  rw [e] at hl
  have hsz : 0 < xs.size := by simpa using hne
  refine call_max_walk (iter_tup hl fun s₂ e st hfp hlI => ?_)
  subst e
  refine ⟨_, _, _, _, _, _, _, rfl, Walks.tuple (A := A.in1) hh _ l hlI (intItems xs), st, hfp, by simpa [intItems] using hsz, CmpOf.ints_gt (numAt xs) (fun _ _ => intItems_at), fun v h' tk hv hk => ?_⟩
  have hv : (intItems xs)[argBest (fun i j => decide (numAt xs i > numAt xs j)) (xs.size - 1)]? = some v := by simpa [intItems] using hv
  obtain ⟨t, rfl⟩ := intItems_at hv
  obtain ⟨h1, h2⟩ := argBest_gt (numAt xs) (xs.size - 1)
  refine h h' tk _ t (keptT hk) ?_ fun a ha => ?_
  · rw [numAt_eq]; exact PySem.getD_mem (by rw [List.length_map, Array.length_toList]; omega)
  · obtain ⟨j, hj, rfl⟩ := mem_getD ha
    rw [List.length_map, Array.length_toList] at hj
    rw [← numAt_eq]; exact h2 j (by omega)
theorem min_rawT (hh : A.handled = none) (hl : s.heap.IsTuple l its.toArray) (hi : IntsAre its ns) (hne : 0 < ns.length)
    (h : ∀ h' tk M t', (∀ b o, s.heap.get? b = some o → h'.get? b = some o) → M ∈ ns → (∀ a, a ∈ ns → M ≤ a) → Q (.int M t') { s with heap := h', toks := tk }) : wpAny (model prog w) A (call (.builtin "min") [.ref l]) Q E s := by
  obtain ⟨xs, e⟩ := hi.allInts.items
  have hn : numsOf (intItems xs).toList = ns := by rw [← e]; exact hi.numsOf
  rw [nums_intItems] at hn
  subst hn
  rw [e] at hl
  have hsz : 0 < xs.size := by simpa using hne
  refine call_min_walk (iter_tup hl fun s₂ e st hfp hlI => ?_)
  subst e
  refine ⟨_, _, _, _, _, _, _, rfl, Walks.tuple (A := A.in1) hh _ l hlI (intItems xs), st, hfp, by simpa [intItems] using hsz, CmpOf.ints_lt (numAt xs) (fun _ _ => intItems_at), fun v h' tk hv hk => ?_⟩
  have hv : (intItems xs)[argBest (fun i j => decide (numAt xs i < numAt xs j)) (xs.size - 1)]? = some v := by simpa [intItems] using hv
  obtain ⟨t, rfl⟩ := intItems_at hv
  obtain ⟨h1, h2⟩ := argBest_lt (numAt xs) (xs.size - 1)
  refine h h' tk _ t (keptT hk) ?_ fun a ha => ?_
  · rw [numAt_eq]; exact PySem.getD_mem (by rw [List.length_map, Array.length_toList]; omega)
  · obtain ⟨j, hj, rfl⟩ := mem_getD ha
    rw [List.length_map, Array.length_toList] at hj
    rw [← numAt_eq]; exact h2 j (by omega)
end
section
variable {X : Cx}
def SqA (K : PySem.W.Frag) (H : Hp) (a : Addr) (xs : List V) : Prop := SqL K H a xs ∨ SqT K H a xs
def rSumA (K : PySem.W.Frag) : List V → Hp → VK → Prop := fun vs H Q => ∃ (a : Addr) (ns : List Int), vs = [V.ref a] ∧ SqA K H a (ns.map V.int) ∧ Q (.int ns.sum) H
def rMaxA (K : PySem.W.Frag) : List V → Hp → VK → Prop := fun vs H Q => ∃ (a : Addr) (ns : List Int), vs = [V.ref a] ∧ SqA K H a (ns.map V.int) ∧ 0 < ns.length ∧ ∀ m, m ∈ ns → (∀ y, y ∈ ns → y ≤ m) → Q (.int m) H
def rMinA (K : PySem.W.Frag) : List V → Hp → VK → Prop := fun vs H Q => ∃ (a : Addr) (ns : List Int), vs = [V.ref a] ∧ SqA K H a (ns.map V.int) ∧ 0 < ns.length ∧ ∀ m, m ∈ ns → (∀ y, y ∈ ns → m ≤ y) → Q (.int m) H
theorem cr_sumA (hc : X.calm = true) : CallR X (.builtin "sum") (rSumA X.K) := by
  intro pins s σ H vs us Q I r h
  obtain ⟨a, ns, rfl, hs | hs, q⟩ := h
  · exact cr_sum hc pins s σ H _ us Q I r ⟨a, ns, rfl, hs, q⟩
  · obtain ⟨its, rv, hl, _⟩ := I.tuple hs
    rw [Vals.ref1 r]
    exact sum_rawT (I.ok.hd hc) hl rv.ints fun h' tk t' hk => ⟨.int _, H, I.kept hk, ⟨_, rfl⟩, q⟩
theorem cr_maxA (hc : X.calm = true) : CallR X (.builtin "max") (rMaxA X.K) := by
  intro pins s σ H vs us Q I r h
  obtain ⟨a, ns, rfl, hs | hs, hne, q⟩ := h
  · exact cr_max hc pins s σ H _ us Q I r ⟨a, ns, rfl, hs, hne, q⟩
  · obtain ⟨its, rv, hl, _⟩ := I.tuple hs
    rw [Vals.ref1 r]
    exact max_rawT (I.ok.hd hc) hl rv.ints hne fun h' tk m t' hk h1 h2 => ⟨.int _, H, I.kept hk, ⟨_, rfl⟩, q m h1 h2⟩
theorem cr_minA (hc : X.calm = true) : CallR X (.builtin "min") (rMinA X.K) := by
  intro pins s σ H vs us Q I r h
  obtain ⟨a, ns, rfl, hs | hs, hne, q⟩ := h
  · exact cr_min hc pins s σ H _ us Q I r ⟨a, ns, rfl, hs, hne, q⟩
  · obtain ⟨its, rv, hl, _⟩ := I.tuple hs
    rw [Vals.ref1 r]
    exact min_rawT (I.ok.hd hc) hl rv.ints hne fun h' tk m t' hk h1 h2 => ⟨.int _, H, I.kept hk, ⟨_, rfl⟩, q m h1 h2⟩
end
/-- all ints -/
def intsD : List D → Option (List Int)
  | [] => some []
  | .int i :: ds => (intsD ds).map fun ns => i :: ns
  | _ :: _ => none
theorem intsD_eq : ∀ {ds : List D} {ns : List Int}, intsD ds = some ns → ds = ns.map PyData.int
  | [], ns, h => by cases h; rfl
  | d :: ds, ns, h => by
    cases d <;> simp only [intsD, reduceCtorEq] at h
    obtain ⟨ms, h1, h2⟩ := Option.map_eq_some_iff.mp h
    subst h2
    rw [intsD_eq h1]; rfl
@[simp] theorem intsD_map (ns : List Int) : intsD (ns.map PyData.int) = some ns := by
  induction ns with
  | nil => rfl
  | cons n ns ih => show ((intsD (ns.map PyData.int)).map fun ms => n :: ms) = _; rw [ih]; rfl
def boolsD : List D → Option (List Bool)
  | [] => some []
  | .bool i :: ds => (boolsD ds).map fun ns => i :: ns
  | _ :: _ => none
theorem boolsD_eq : ∀ {ds : List D} {ns : List Bool}, boolsD ds = some ns → ds = ns.map PyData.bool
  | [], ns, h => by cases h; rfl
  | d :: ds, ns, h => by
    cases d <;> simp only [boolsD, reduceCtorEq] at h
    obtain ⟨ms, h1, h2⟩ := Option.map_eq_some_iff.mp h
    subst h2
    rw [boolsD_eq h1]; rfl
@[simp] theorem boolsD_map (ns : List Bool) : boolsD (ns.map PyData.bool) = some ns := by
  induction ns with
  | nil => rfl
  | cons n ns ih => show ((boolsD (ns.map PyData.bool)).map fun ms => n :: ms) = _; rw [ih]; rfl
def maxI : List Int → Option Int
  | [] => none
  | n :: ns => some (ns.foldl max n)
def minI : List Int → Option Int
  | [] => none
  | n :: ns => some (ns.foldl min n)
theorem foldl_max_le (ns : List Int) : ∀ n, n ≤ ns.foldl max n ∧ (∀ y ∈ ns, y ≤ ns.foldl max n) ∧ (ns.foldl max n = n ∨ ns.foldl max n ∈ ns) := by
  induction ns with
  | nil => intro n; simp
  | cons m ns ih =>
    intro n
    obtain ⟨h1, h2, h3⟩ := ih (max n m)
    refine ⟨by simp only [List.foldl_cons]; omega, fun y hy => ?_, ?_⟩
    · simp only [List.foldl_cons]
      rcases List.mem_cons.mp hy with rfl | hy
      · omega
      · exact h2 y hy
    · simp only [List.foldl_cons]
      rcases h3 with h3 | h3
      · rw [h3]
        rcases Int.le_total n m with h | h
        · right; simp [Int.max_eq_right h]
        · left; simp [Int.max_eq_left h]
      · right; exact List.mem_cons_of_mem _ h3
theorem foldl_min_le (ns : List Int) : ∀ n, ns.foldl min n ≤ n ∧ (∀ y ∈ ns, ns.foldl min n ≤ y) ∧ (ns.foldl min n = n ∨ ns.foldl min n ∈ ns) := by
  induction ns with
  | nil => intro n; simp
  | cons m ns ih =>
    intro n
    obtain ⟨h1, h2, h3⟩ := ih (min n m)
    refine ⟨by simp only [List.foldl_cons]; omega, fun y hy => ?_, ?_⟩
    · simp only [List.foldl_cons]
      rcases List.mem_cons.mp hy with rfl | hy
      · omega
      · exact h2 y hy
    · simp only [List.foldl_cons]
      rcases h3 with h3 | h3
      · rw [h3]
        rcases Int.le_total n m with h | h
        · left; simp [Int.min_eq_left h]
        · right; simp [Int.min_eq_right h]
      · right; exact List.mem_cons_of_mem _ h3
theorem maxI_spec {ns : List Int} {m : Int} (h : maxI ns = some m) : m ∈ ns ∧ ∀ y ∈ ns, y ≤ m := by
  cases ns with
  | nil => cases h
  | cons n ns =>
    cases h
    obtain ⟨h1, h2, h3⟩ := foldl_max_le ns n
    refine ⟨?_, fun y hy => ?_⟩
    · rcases h3 with h3 | h3
      · rw [h3]; exact List.mem_cons_self
      · exact List.mem_cons_of_mem _ h3
    · rcases List.mem_cons.mp hy with rfl | hy
      · exact h1
      · exact h2 y hy
theorem minI_spec {ns : List Int} {m : Int} (h : minI ns = some m) : m ∈ ns ∧ ∀ y ∈ ns, m ≤ y := by
  cases ns with
  | nil => cases h
  | cons n ns =>
    cases h
    obtain ⟨h1, h2, h3⟩ := foldl_min_le ns n
    refine ⟨?_, fun y hy => ?_⟩
    · rcases h3 with h3 | h3
      · rw [h3]; exact List.mem_cons_self
      · exact List.mem_cons_of_mem _ h3
    · rcases List.mem_cons.mp hy with rfl | hy
      · exact h1
      · exact h2 y hy
theorem maxI_eq {ns : List Int} {m : Int} (h1 : m ∈ ns) (h2 : ∀ y ∈ ns, y ≤ m) : maxI ns = some m := by
  cases h : maxI ns with
  | none => cases ns <;> simp [maxI] at h h1
  | some k =>
    obtain ⟨h3, h4⟩ := maxI_spec h
    have := h2 k h3
    have := h4 m h1
    congr 1; omega
theorem minI_eq {ns : List Int} {m : Int} (h1 : m ∈ ns) (h2 : ∀ y ∈ ns, m ≤ y) : minI ns = some m := by
  cases h : minI ns with
  | none => cases ns <;> simp [minI] at h h1
  | some k =>
    obtain ⟨h3, h4⟩ := minI_spec h
    have := h2 k h3
    have := h4 m h1
    congr 1; omega
def oneD : List D → Option D
  | [d] => some d
  | _ => none
def sumD (ds : List D) : Option D := ((oneD ds).bind ltO).bind fun ds => (intsD ds).map fun ns => .int ns.sum
def maxD (ds : List D) : Option D := ((oneD ds).bind ltO).bind fun ds => (intsD ds).bind fun ns => (maxI ns).map .int
def minD (ds : List D) : Option D := ((oneD ds).bind ltO).bind fun ds => (intsD ds).bind fun ns => (minI ns).map .int
def allD (ds : List D) : Option D := ((oneD ds).bind listD).bind fun ds => (boolsD ds).map fun bs => .bool (bs.all id)
def anyD (ds : List D) : Option D := ((oneD ds).bind listD).bind fun ds => (boolsD ds).map fun bs => .bool (bs.any id)
section
variable {K : PySem.W.Frag} {S : AS} {H : Hp}
theorem RpAll.ints : ∀ {vs : List V} {ns : List Int}, RpAll K H vs (ns.map PyData.int) → vs = ns.map V.int
  | _, [], r => by cases r; rfl
  | _, n :: ns, r => by
    cases r with
    | cons h t => cases h; rw [RpAll.ints t]; rfl
theorem RpAll.bools : ∀ {vs : List V} {ns : List Bool}, RpAll K H vs (ns.map PyData.bool) → vs = ns.map V.bl
  | _, [], r => by cases r; rfl
  | _, n :: ns, r => by
    cases r with
    | cons h t => cases h; rw [RpAll.bools t]; rfl
theorem oneD_some {ds : List D} {d : D} (h : oneD ds = some d) : ds = [d] := by
  unfold oneD at h
  split at h
  · cases h; rfl
  · cases h
theorem DpT.seqA {v : V} {d : D} {ds : List D} (h : DpT K S H v d) (e : ltO d = some ds) : ∃ a vs, v = .ref a ∧ SqA K H a vs ∧ vs.length ≤ sizeLine ∧ RpAll K (hide S H) vs ds := by
  cases d <;> simp only [ltO, reduceCtorEq] at e <;> cases e
  · obtain ⟨a, vs, h1, h2, z, h3⟩ := h.list
    exact ⟨a, vs, h1, .inl (SqL.of h2), z, h3⟩
  · obtain ⟨a, vs, h1, h2, z, h3⟩ := h.tuple
    exact ⟨a, vs, h1, .inr h2, z, h3⟩
theorem cs_sum : CallS K (rSumA K) sumD := by
  intro S H vs ds d Q hs ha hg k
  obtain ⟨es, h1, h2⟩ := Option.bind_eq_some_iff.mp hg
  obtain ⟨e, h3, h4⟩ := Option.bind_eq_some_iff.mp h1
  obtain ⟨ns, h5, h6⟩ := Option.map_eq_some_iff.mp h2
  subst h6
  have := oneD_some h3; subst this
  obtain ⟨v, rfl, r⟩ := ha.one
  obtain ⟨a, ws, rfl, hq, z, rp⟩ := r.seqA h4
  have := intsD_eq h5; subst this
  have := rp.ints; subst this
  exact ⟨a, ns, rfl, hq, k _ H (Same.refl H) (.int _)⟩
theorem cs_max : CallS K (rMaxA K) maxD := by
  intro S H vs ds d Q hs ha hg k
  obtain ⟨es, h1, h2⟩ := Option.bind_eq_some_iff.mp hg
  obtain ⟨e, h3, h4⟩ := Option.bind_eq_some_iff.mp h1
  obtain ⟨ns, h5, h6⟩ := Option.bind_eq_some_iff.mp h2
  obtain ⟨m, h7, h8⟩ := Option.map_eq_some_iff.mp h6
  subst h8
  have := oneD_some h3; subst this
  obtain ⟨v, rfl, r⟩ := ha.one
  obtain ⟨a, ws, rfl, hq, z, rp⟩ := r.seqA h4
  have := intsD_eq h5; subst this
  have := rp.ints; subst this
  refine ⟨a, ns, rfl, hq, ?_, fun m' h1 h2 => ?_⟩
  · cases ns with
    | nil => cases h7
    | cons _ _ => simp
  · have := maxI_eq h1 h2
    rw [h7] at this; cases this
    exact k _ H (Same.refl H) (.int _)
theorem cs_min : CallS K (rMinA K) minD := by
  intro S H vs ds d Q hs ha hg k
  obtain ⟨es, h1, h2⟩ := Option.bind_eq_some_iff.mp hg
  obtain ⟨e, h3, h4⟩ := Option.bind_eq_some_iff.mp h1
  obtain ⟨ns, h5, h6⟩ := Option.bind_eq_some_iff.mp h2
  obtain ⟨m, h7, h8⟩ := Option.map_eq_some_iff.mp h6
  subst h8
  have := oneD_some h3; subst this
  obtain ⟨v, rfl, r⟩ := ha.one
  obtain ⟨a, ws, rfl, hq, z, rp⟩ := r.seqA h4
  have := intsD_eq h5; subst this
  have := rp.ints; subst this
  refine ⟨a, ns, rfl, hq, ?_, fun m' h1 h2 => ?_⟩
  · cases ns with
    | nil => cases h7
    | cons _ _ => simp
  · have := minI_eq h1 h2
    rw [h7] at this; cases this
    exact k _ H (Same.refl H) (.int _)
theorem listD_some {d : D} {ds : List D} (h : listD d = some ds) : d = .list ds := by
  cases d <;> simp only [listD, reduceCtorEq] at h; cases h; rfl
theorem cs_all : CallS K (rAll K) allD := by
  intro S H vs ds d Q hs ha hg k
  obtain ⟨es, h1, h2⟩ := Option.bind_eq_some_iff.mp hg
  obtain ⟨e, h3, h4⟩ := Option.bind_eq_some_iff.mp h1
  obtain ⟨ns, h5, h6⟩ := Option.map_eq_some_iff.mp h2
  subst h6
  have := oneD_some h3; subst this
  have := listD_some h4; subst this
  obtain ⟨v, rfl, r⟩ := ha.one
  obtain ⟨a, ws, rfl, hq, z, rp⟩ := r.list
  have := boolsD_eq h5; subst this
  have := rp.bools; subst this
  exact ⟨a, ns, rfl, SqL.of hq, k _ H (Same.refl H) (.bl _)⟩
theorem cs_any : CallS K (rAny K) anyD := by
  intro S H vs ds d Q hs ha hg k
  obtain ⟨es, h1, h2⟩ := Option.bind_eq_some_iff.mp hg
  obtain ⟨e, h3, h4⟩ := Option.bind_eq_some_iff.mp h1
  obtain ⟨ns, h5, h6⟩ := Option.map_eq_some_iff.mp h2
  subst h6
  have := oneD_some h3; subst this
  have := listD_some h4; subst this
  obtain ⟨v, rfl, r⟩ := ha.one
  obtain ⟨a, ws, rfl, hq, z, rp⟩ := r.list
  have := boolsD_eq h5; subst this
  have := rp.bools; subst this
  exact ⟨a, ns, rfl, SqL.of hq, k _ H (Same.refl H) (.bl _)⟩
end

/-! ### sorted -/
def alikeB (ds : List D) : Bool := ds.all fun d => ds.all fun e => PySem.W.alike d e
def tupB : D → Bool
  | .tuple (_ :: _) => true
  | _ => false
def othB : D → Bool
  | .none => false
  | .tuple _ => false
  | _ => true
def sortB (ds : List D) : Bool := alikeB ds && (ds.all tupB || ds.all othB) && ds.all fun d => decide (d.depth ≤ 64)
def srt (ds : List D) : List D := ds.mergeSort (PySem.W.dataLe false id)
def sortedD (ds : List D) : Option D := ((oneD ds).bind listD).bind fun ds => if sortB ds then some (.list (srt ds)) else none
section
variable {X : Cx} {K : PySem.W.Frag}
def rSortD (K : PySem.W.Frag) : List V → Hp → VK → Prop := fun vs H Q => ∃ (a : Addr) (ps : List (V × D)), vs = [V.ref a] ∧ SqL K H a (ps.map (·.1)) ∧ (∀ p ∈ ps, Dp K H p.1 p.2) ∧ sortB (ps.map (·.2)) = true ∧ ps.length ≤ sizeLine ∧
  ∀ (q : Addr), H q = none → Q (.ref q) (upd H q (.lst ((ps.mergeSort (PySem.W.dataLe false fun p => p.2)).map (·.1))))
theorem sortB_ok {ds : List D} (h : sortB ds = true) : PySem.W.AllAlike ds ∧ PySem.W.Sortable ds ∧ ∀ d ∈ ds, d.depth ≤ 64 := by
  unfold sortB alikeB at h
  simp only [Bool.and_eq_true, Bool.or_eq_true, List.all_eq_true, decide_eq_true_eq] at h
  refine ⟨fun d hd e he => h.1.1 d hd e he, ?_, h.2⟩
  rcases h.1.2 with q | q
  · left
    intro d hd
    have := q d hd
    unfold tupB at this
    split at this
    · exact ⟨_, _, rfl⟩
    · cases this
  · right
    intro d hd
    have := q d hd
    cases d <;> simp [othB] at this ⊢
theorem cr_sortD (hu : X.A.units + 100 < cLine) : CallR X (.builtin "sorted") (rSortD X.K) := by
  intro pins s σ H vs us Q I r h
  obtain ⟨a, ps, rfl, hq, hp, hb, hz, k⟩ := h
  obtain ⟨its, rv, hl, _⟩ := I.list hq
  rw [Vals.ref1 r]
  obtain ⟨h1, h2, h3⟩ := sortB_ok hb
  have each : ∀ (ps : List (V × D)) (its : List Value), Vals (ps.map (·.1)) its → (∀ p ∈ ps, Dp X.K H p.1 p.2) → PySem.W.EachIs (fun v (p : V × D) => RelV p.1 v ∧ ∃ as, Reads s.heap v p.2 as) its ps := by
    intro ps
    induction ps with
    | nil => intro its rv _; cases rv; exact .nil
    | cons p ps ih =>
      intro its rv hp
      cases rv with
      | cons r0 rt => exact .cons ⟨r0, Dp.reads I p.2 p.1 _ (hp p List.mem_cons_self) r0⟩ (ih _ rt fun q hq => hp q (List.mem_cons_of_mem _ hq))
  have E := each ps its rv hp
  refine PySem.W.sorted_data (R := fun v (p : V × D) => RelV p.1 v) (enc := fun p => p.2) hl.isList (E.mono fun _ _ q => q.1) (E.mono fun _ _ q => q.2) h1 h2 hz (fun b hb => ?_) fun out hlen hout => ?_
  · have := h3 b.2 (List.mem_map.mpr ⟨b, hb, rfl⟩)
    omega
  obtain ⟨ep, he'⟩ := PyProof.Rows.sortedAll_at s.heap its (List.toArray out)
  have vo : ∀ (qs : List (V × D)) (out : List Value), PySem.W.EachIs (fun v (p : V × D) => RelV p.1 v) out qs → Vals (qs.map (·.1)) out := by
    intro qs
    induction qs with
    | nil => intro out h; cases h; exact .nil
    | cons q qs ih => intro out h; cases h with | cons h1 h2 => exact .cons h1 (ih _ h2)
  have hlen2 : ((ps.mergeSort (PySem.W.dataLe false fun p => p.2)).map (·.1)).length ≤ sizeLine := by rw [List.length_map, List.length_mergeSort]; exact hz
  exact ⟨.ref _, _, I.laid (t' := s.toks) (o := .lst ((ps.mergeSort (PySem.W.dataLe false fun p => p.2)).map (·.1))) (fun _ _ => PyProof.Rows.sortedAll_old) (Nat.le_succ _) ⟨hlen2, out, ep, vo _ _ hout, he'⟩, rfl, k _ (I.hok.fresh (Nat.le_succ _))⟩
theorem RpAll.zip {H : Hp} : ∀ {vs : List V} {ds : List D}, RpAll K H vs ds → (vs.zip ds).map (·.1) = vs ∧ (vs.zip ds).map (·.2) = ds ∧ ∀ p ∈ vs.zip ds, Rp K H p.1 p.2
  | _, _, .nil => ⟨rfl, rfl, fun _ h => nomatch h⟩
  | _, _, .cons h t => by
    obtain ⟨h1, h2, h3⟩ := RpAll.zip t
    refine ⟨by simp [h1], by simp [h2], fun p hp => ?_⟩
    rw [List.zip_cons_cons] at hp
    rcases List.mem_cons.mp hp with rfl | hp
    · exact h
    · exact h3 p hp
theorem RpAll.of_pairs {H : Hp} : ∀ {ps : List (V × D)}, (∀ p ∈ ps, Rp K H p.1 p.2) → RpAll K H (ps.map (·.1)) (ps.map (·.2))
  | [], _ => .nil
  | p :: ps, h => .cons (h p List.mem_cons_self) (RpAll.of_pairs fun q hq => h q (List.mem_cons_of_mem _ hq))
theorem cf_sorted : CallF K (rSortD K) sortedD := by
  intro S H vs ds d Q hs ha hg k
  obtain ⟨es, h1, h2⟩ := Option.bind_eq_some_iff.mp hg
  obtain ⟨e, h3, h4⟩ := Option.bind_eq_some_iff.mp h1
  split at h2
  · rename_i hb
    cases h2
    have := oneD_some h3; subst this
    have := listD_some h4; subst this
    obtain ⟨v, rfl, r⟩ := ha.one
    obtain ⟨a, ws, rfl, hq, z, rp⟩ := r.list
    obtain ⟨z1, z2, z3⟩ := rp.zip
    refine ⟨a, ws.zip es, rfl, by rw [z1]; exact SqL.of hq, fun p hp => (Rp.mono hide_sub (z3 p hp)).dp, by rw [z2]; exact hb, by rw [List.length_zip]; omega, fun q no => ?_⟩
    have ez : ((ws.zip es).mergeSort (PySem.W.dataLe false fun p => p.2)).map (·.2) = srt es := by
      unfold srt
      have := PySem.W.sort_maps (r := PySem.W.dataLe false fun p : V × D => p.2) (s := PySem.W.dataLe false id) (f := fun p : V × D => p.2) (l := ws.zip es) (fun _ _ _ _ => rfl)
      rw [this, z2]
    have rs : RpAll K (hide S H) (((ws.zip es).mergeSort (PySem.W.dataLe false fun p => p.2)).map (·.1)) (srt es) := by
      rw [← ez]
      exact RpAll.of_pairs fun p hp => z3 p (List.mem_mergeSort.mp hp)
    exact k _ _ (same_upd no) ⟨_, rfl, DpF.new (Same.refl H) no (by rw [List.length_map, List.length_mergeSort, List.length_zip]; omega) rs⟩
  · cases h2
end
/-! ### isinstance -/
def clsOf : D → String
  | .none => "NoneType"
  | .bool _ => "bool"
  | .int _ => "int"
  | .str _ => "str"
  | .list _ => "list"
  | .tuple _ => "tuple"
  | .dict _ => "dict"
def isiD (T : String) (d : D) : Option D := match d with
  | .dict _ => none
  | d => (kitB (clsOf d) T).map .bool
section
variable {X : Cx} {K : PySem.W.Frag} {f : Rho → Option D}
theorem tyx_of {S : AS} {H : Hp} {v : V} {d : D} (h : DpT K S H v d) (n : ∀ k, d ≠ .dict k) : TyX K H v (.type (clsOf d)) := by
  have h' := h.all
  clear h
  cases h' with
  | non => exact .base .non
  | bl b => exact .base (.bl b)
  | int i => exact .base (.int i)
  | str x => exact .base (.str x)
  | lst hl _ _ => exact .base (.lst hl)
  | tup hl _ _ =>
    rcases hl with (h | ⟨o, h⟩) | ⟨o, its, n, h1, h2, _⟩
    · exact .base (.tup h)
    · exact .fTuple h
    · exact .kTuple h1 h2
theorem g_isi {e : Expr} {x : Str} {Ts : String} {p p2 pos : Pos} (hg : Gl X "isinstance") (hm : X.mg "isinstance" = none) (he : PE X e (tT X.K f)) (ht : PE X (.Name x p2) (tC (.ty Ts)))
    (hs : starEach [e, .Name x p2] X.env = (false, eval e X.env) :: starEach [.Name x p2] X.env := by rfl) (hs2 : starEach [.Name x p2] X.env = (false, eval (.Name x p2) X.env) :: starEach [] X.env := by rfl) (hpl : (backTo pos (starEach [.Name x p2] X.env)).any (·.1) = false := by rfl) :
    PE X (.Call (.Name "isinstance" p) [e, .Name x p2] [] pos) (tE X.K (un (isiD Ts) f)) :=
  pe_w (pe_callB call_isi hg hm (by decide +kernel) (pa_cons he (pa_cons ht pa_nil hs2) hs) (by decide) (by decide) hs hpl) fun σ H Q ⟨S, ρ, d, h1, h2, h3⟩ => by
    obtain ⟨a, h4, h5⟩ := un_some h2
    refine ⟨S, ρ, a, h1, h4, fun v H' e r => ?_⟩
    have nd : ∀ k, a ≠ .dict k := fun k z => by subst z; cases h5
    have h5' : (kitB (clsOf a) Ts).map PyData.bool = some d := by
      cases a <;> first | exact h5 | exact absurd rfl (nd _)
    obtain ⟨b, h6, h7⟩ := Option.map_eq_some_iff.mp h5'
    subst h7
    exact ⟨v, .ty Ts, _, .type Ts, b, rfl, .ty Ts, tyx_of r nd, kit_ty h6, h3 _ H' e (.bl b)⟩
end
end PF

set_option Elab.async false
set_option linter.all false
set_option maxRecDepth 100000
/-! PF8: a def of the text and its reading; the end of a law. -/
namespace PF
open PySem PySem.Spec PyProof.Rows L2
variable [Tabs]

def fzS (i : Nat) (g : Rho → Option Out) : Rho → Option Out := fun ρ => g (frz i ρ)
def klS (js : List Nat) (g : Rho → Option Out) : Rho → Option Out := fun ρ => (g ρ).map (killO js)
def k0S (js : List Nat) (g : Rho → Option Out) : Rho → Option Out := fun ρ => g (kill js ρ)
section
variable {X : Cx} {K : PySem.W.Frag} {sts : List Stmt} {g : Rho → Option Out}
theorem gs_fz (i : Nat) (h : PSs X sts (tS K g)) : PSs X sts (tS K (fzS i g)) := gs_frz i h
theorem gs_kl (js : List Nat) (h : PSs X sts (tS K g)) : PSs X sts (tS K (klS js g)) := gs_kill js h
theorem gs_k0 (js : List Nat) (h : PSs X sts (tS K g)) : PSs X sts (tS K (k0S js g)) := gs_kill0 js h
end
def env0 (n m : Nat) (ds : List D) : Rho := ds.map (fun d => some (.val d)) ++ List.replicate (m - n) none
def outD : Option Out → Option D
  | some (.rt d) => some d
  | some (.nx _) => some .none
  | _ => none
def runF (n m : Nat) (g : Rho → Option Out) (ds : List D) : Option D := if ds.length = n then outD (g (env0 n m ds)) else none
structure DefAt (K : PySem.W.Frag) (mg : Str → Option Value) (x : Str) (st : Stmt) (ps : List Str) (a : Addr) (fd : FuncData) : Prop where
  fn : FunD K x x (defArgs st) (defBody st) (defScope st) [] [] a fd
  mgx : mg x = some (.ref a)
  bd : Binds K fd ps []
/-- a def by its body, its code object told -/
theorem def_ok {P : Program} {w : World} {K : PySem.W.Frag} {mg : Str → Option Value} {base : Heap} {x : Str} {st : Stmt} {f : Addr} {fd : FuncData} {N ps : List Str} {k : Nat} {sp : Sp} (F : FunD K x x (defArgs st) (defBody st) (defScope st) [] [] f fd) (S : FnScope N ps (defScope st))
    (len : ∀ vs H Q E, sp vs H Q E → vs.length = ps.length)
    (hb : ∀ (A : Around) (outer : List Env) (s : Shared) (H : Hp) (vs : List V) (Q : VK) (E : XK), Room k (A.deeper (envOfC x (defScope st) s.heap.objs.size f fd.code)) → sp vs H Q E →
      ∃ t, PSs (cxOf CX0 P w K mg base N x (defScope st) f fd.code A outer s H E).nox (defBody st) t ∧ t { nx := fun _ H' => Q .non H', rt := Q } (start N vs) H) : FnOk P w K mg base CX0 (k + 1) f fd ps sp := by
  obtain ⟨oc, od, dV, kV, doc, pm, an, cdv, ct, osl, rfl, lk, hcd, _, _⟩ := F.ex
  refine fn_of lk hcd S len fun A outer s H vs Q E hr hsp => ?_
  obtain ⟨t, h1, h2⟩ := hb A outer s H vs Q E hr hsp
  exact ⟨t, PSs.nox h1, h2⟩
/-- nothing is promised -/
theorem fn_none {P : Program} {w : World} {K : PySem.W.Frag} {mg : Str → Option Value} {base : Heap} {k n : Nat} {f : Addr} {fd : FuncData} {ps : List Str} : FnOk P w K mg base CX0 k f fd ps (spF K n fun _ => none) :=
  ⟨fun vs H Q E h => (by obtain ⟨S, ds, d, _, _, _, h, _⟩ := h; cases h), fun A outer s H args us vs Q E _ _ _ _ h => by obtain ⟨S, ds, d, _, _, _, h, _⟩ := h; cases h⟩
section
variable {P : Program} {w : World} {K : PySem.W.Frag} {mg : Str → Option Value} {base : Heap}
theorem sok_start {H : Hp} {S : AS} {vs : List V} {ds : List D} {N : List Str} {n : Nat} (hs : HidOk S H) (r : RpAll K (hide S H) vs ds) (hl : ds.length = n) (hn : n ≤ N.length) : SOk K H S H (start N vs) (env0 n N.length ds) := by
  have hv : vs.length = n := by rw [r.length, hl]
  have at_ : ∀ (i : Nat) (s : Sl), (env0 n N.length ds)[i]? = some (some s) → ∃ d, ds[i]? = some d ∧ s = .val d := fun i s q => by
    unfold env0 at q
    by_cases hi : i < ds.length
    · rw [List.getElem?_append_left (by simpa using hi), List.getElem?_map] at q
      obtain ⟨d, h1, h2⟩ := Option.map_eq_some_iff.mp q
      cases h2
      exact ⟨d, h1, rfl⟩
    · rw [List.getElem?_append_right (by simpa using Nat.le_of_not_lt hi), List.getElem?_replicate] at q
      split at q
      · cases q
      · cases q
  have no : ∀ i a, ¬ OwnIx (start N vs) (env0 n N.length ds) i a := fun i a ⟨⟨es, h1⟩, _⟩ => by
    obtain ⟨d, _, h2⟩ := at_ i _ h1
    cases h2
  have hh : hidS S (start N vs) (env0 n N.length ds) = S := by
    funext a
    unfold hidS
    simp [no]
  refine ⟨Same.refl H, ?_, hs, fun i s q => ?_, fun i a o => (no i a o).elim, fun i j a o _ => (no i a o).elim⟩
  · simp [env0, L2.start, hl, hv]
  · obtain ⟨d, h1, rfl⟩ := at_ i s q
    obtain ⟨v, h2, h3⟩ := r.get h1
    refine ⟨v, ?_, ?_⟩
    · unfold L2.start
      have hi := (List.getElem?_eq_some_iff.mp h2).1
      rw [List.getElem?_append_left (by simpa using hi), List.getElem?_map, h2]
      rfl
    · show Rp K (hide (hidS S _ _) H) v d
      rw [hh]
      exact h3
theorem fn_run {x : Str} {st : Stmt} {f : Addr} {fd : FuncData} {N ps : List Str} {k n m : Nat} {g : Rho → Option Out} (F : FunD K x x (defArgs st) (defBody st) (defScope st) [] [] f fd) (S : FnScope N ps (defScope st)) (hp : ps.length = n) (hm : N.length = m) (hn : n ≤ m)
    (hb : ∀ (A : Around) (outer : List Env) (s : Shared) (H : Hp) (E : XK), Room k (A.deeper (envOfC x (defScope st) s.heap.objs.size f fd.code)) → PSs (cxOf CX0 P w K mg base N x (defScope st) f fd.code A outer s H E).nox (defBody st) (tS K g)) :
    FnOk P w K mg base CX0 (k + 1) f fd ps (spF K n (runF n m g)) := by
  refine def_ok F S (fun vs H Q E h => ?_) (fun A outer s H vs Q E hr h => ?_)
  · obtain ⟨S, ds, d, _, r, hl, _⟩ := h
    rw [r.length, hl, hp]
  · obtain ⟨S, ds, d, hs, r, hl, hf, q⟩ := h
    refine ⟨_, hb A outer s H E hr, ?_⟩
    unfold runF at hf
    rw [if_pos hl] at hf
    cases hg : g (env0 n m ds) with
    | none => rw [hg] at hf; cases hf
    | some o =>
      rw [hg] at hf
      subst hm
      refine ⟨H, S, env0 n N.length ds, o, sok_start hs r hl hn, hg, ?_⟩
      cases o with
      | rt d' => cases hf; exact fun v H' e r => q v H' e r
      | nx ρ => cases hf; exact fun σ' H' s => q .non H' s.ex .non
      | bk ρ => cases hf
      | ct ρ => cases hf
end
end PF

set_option Elab.async false
set_option linter.all false
set_option maxRecDepth 100000
/-! PF9: any, all of a generator expression, as data. -/
namespace PF
open PySem PySem.Spec PyProof.Rows L2 GxR
variable [Tabs]

def gxL (z : Bool) (p : D → Rho → Option Rho) (t : Rho → Option Bool) (f : Rho → Option D) (ρ : Rho) : List D → Option Bool
  | [] => some (!z)
  | d :: ds => (p d ρ).bind fun ρ1 => (t ρ1).bind fun b => if b = true then (f ρ1).bind fun y => match y with
    | .bool c => if c = z then some z else gxL z p t f ρ ds
    | _ => none
    else gxL z p t f ρ ds
def gxF (z : Bool) (vs : List Nat) (src : Rho → Option (List D)) (p : D → Rho → Option Rho) (t : Rho → Option Bool) (f : Rho → Option D) : Rho → Option D := fun ρ => (src ρ).bind fun ds => (gxL z p t f (kill vs ρ) ds).map .bool
theorem tGx_of {K : PySem.W.Frag} {src : Rho → Option (List D)} {p : D → Rho → Option Rho} {t : Rho → Option Bool} {f : Rho → Option D} {js vs : List Nat} {z : Bool} {P : Addr} (hj : ∀ j ∈ js, j ∈ vs) (hP : P ∈ Tabs.tb) :
    ∀ σ H Q, tE K (gxF z vs src p t f) σ H Q → tGx P (tJ K src) (tC' K js p) (tB K t) (tE K f) vs z σ H Q := fun σ H Q ⟨S, ρ, d, h1, h2, h3⟩ => by
  obtain ⟨ds, h4, h5⟩ := Option.bind_eq_some_iff.mp h2
  obtain ⟨bz, h6, h7⟩ := Option.map_eq_some_iff.mp h5
  subst h7
  refine ⟨S, ρ, ds, h1, h4, fun J H1 e1 it => ?_⟩
  obtain ⟨hz, it⟩ := it
  obtain ⟨ps, hP1, ht⟩ := (h1.hid.mono e1).tab P hP
  refine ⟨ps, hP1, ht, fun more tm => ⟨fun i m H' => m = ds.length - i ∧ i ≤ ds.length ∧ Same H1 H' ∧ gxL z p t f (kill vs ρ) (ds.drop i) = some bz, ⟨ds.length, by simp, Nat.zero_le _, Same.tab hP1 tm, h6⟩, ?_⟩⟩
  rintro i m H' ⟨rfl, hi, e', hc⟩
  have hs' : HidOk S H' := h1.hid.mono (e1.trans e')
  obtain ⟨hstop, hgo⟩ := it S H' (hide_mono e') e' hs'
  by_cases hlt : i < ds.length
  · obtain ⟨d, hd⟩ : ∃ d, ds[i]? = some d := ⟨ds[i], by simp [hlt]⟩
    obtain ⟨g1, g2⟩ := hgo i d hd
    have edrop : ds.drop i = d :: ds.drop (i + 1) := by
      rw [List.drop_eq_getElem_cons hlt]
      congr 1
      rw [List.getElem?_eq_getElem hlt] at hd
      exact Option.some.inj hd
    rw [edrop] at hc
    obtain ⟨ρ1, c1, c2⟩ := Option.bind_eq_some_iff.mp hc
    obtain ⟨b, c3, c4⟩ := Option.bind_eq_some_iff.mp c2
    refine .inr ⟨g1, fun H2 => Same H1 H2 ∧ gxL z p t f (kill vs ρ) (ds.drop (i + 1)) = some bz, fun H2 q => ⟨_, by omega, rfl, hlt, q⟩, fun x H2 y => ?_⟩
    obtain ⟨e2, rx⟩ := g2 x H2 y
    have e12 := e'.trans e2
    have eb : EOk K S H2 (wipe σ vs) (kill vs ρ) := (h1.wiped vs).mono (e1.trans e12)
    refine ⟨_, kill vs ρ, d, ρ1, eb, rx, c1, fun σ2 s2 a2 => ⟨Agree.wipe (a2.more hj), ?_⟩⟩
    refine ⟨_, ρ1, b, s2, c3, fun H3 e3 => ?_⟩
    cases b with
    | false =>
      rw [if_neg (by decide)] at c4
      exact ⟨e12.trans e3, c4⟩
    | true =>
      rw [if_pos rfl] at c4
      obtain ⟨yd, c5, c6⟩ := Option.bind_eq_some_iff.mp c4
      show tE K f σ2 H3 _
      refine ⟨_, ρ1, yd, s2.mono e3, c5, fun y H4 e4 ry => ?_⟩
      cases yd <;> simp only [reduceCtorEq] at c6
      rename_i c
      have e14 := (e12.trans e3).trans e4
      cases ry
      refine ⟨c, rfl, fun e => ?_, fun e => ?_⟩
      · rw [if_pos e] at c6
        cases c6
        exact h3 _ H4 (e1.trans e14) (.bl _)
      · rw [if_neg e] at c6
        exact ⟨e14, c6⟩
  · have ei : i = ds.length := by omega
    subst ei
    rw [List.drop_length] at hc
    cases hc
    exact .inl ⟨hstop, h3 _ H' (e1.trans e') (.bl _)⟩
section
variable {X : Cx} {k : Nat} {c P : Addr} {elt tg iter : Expr} {ifs : List Expr} {scope : Scope} {own : List (Str × Nat)} {gpos pos pp : Pos} {src : Rho → Option (List D)} {p : D → Rho → Option Rho} {t : Rho → Option Bool} {f : Rho → Option D} {js : List Nat}
theorem g_any {vs : List Nat} (hr : Room (k + 1) X.A) (hgl : Gl X "any") (hm : X.mg "any" = none) (hc : X.calm = true) (hN : X.N.Nodup) (TB : TabB X.base X.mg c P) (hcode : X.env.code = .ref c) (hP : P ∈ Tabs.tb) (hi : PI X tg iter (tJ X.K src)) (ok : BlkOk X.N X.env.scope scope own)
    (hg : ∀ (A' : Around) (s : Shared) (H : Hp) (C : Addr) (cl : List (Str × Addr)) (code : Value) (fp : List Addr), Room k A' → PG (gex X A' s H (genEnv scope cl C code builtinsNs X.env) fp) tg (tC' X.K js p))
    (ht : ∀ (A' : Around) (s : Shared) (H : Hp) (C : Addr) (cl : List (Str × Addr)) (code : Value) (fp : List Addr), Room k A' → PTs (gex X A' s H (genEnv scope cl C code builtinsNs X.env) fp) ifs (tB X.K t))
    (he : ∀ (A' : Around) (s : Shared) (H : Hp) (C : Addr) (cl : List (Str × Addr)) (code : Value) (fp : List Addr), Room k A' → PE (gex X A' s H (genEnv scope cl C code builtinsNs X.env) fp) elt (tE X.K f))
    (hcell : (scope.names.all fun y => y.2 != .cell) = true := by decide) (hdot : scope.names.lookup (".0" : Str) = some NameKind.local := by rfl) (hco : scope.isCoroutine = false := by rfl)
    (hj : (js.all fun j => (own.map (·.2)).contains j) = true := by decide) (hs : ∀ v, genFold iter X.env v = pure v := by intro _; rfl)
    (hst : starEach [.GeneratorExp elt [⟨tg, iter, ifs, 0⟩] scope gpos] X.env = (false, eval (.GeneratorExp elt [⟨tg, iter, ifs, 0⟩] scope gpos) X.env) :: starEach [] X.env := by rfl) (hv : own.map (·.2) = vs := by rfl) :
    PE X (.Call (.Name "any" pp) [.GeneratorExp elt [⟨tg, iter, ifs, 0⟩] scope gpos] [] pos) (tE X.K (gxF true vs src p t f)) := by
  subst hv
  exact pe_w (pe_anyG hr hgl hm hc hN TB hcode hi ok (fun y hy => by have := List.all_eq_true.mp hcell y hy; simpa using this) hdot hco hg ht he hs hst) (tGx_of (fun j hj' => by
    have := List.all_eq_true.mp hj j hj'
    simpa using this) hP)
theorem g_all {vs : List Nat} (hr : Room (k + 1) X.A) (hgl : Gl X "all") (hm : X.mg "all" = none) (hc : X.calm = true) (hN : X.N.Nodup) (TB : TabB X.base X.mg c P) (hcode : X.env.code = .ref c) (hP : P ∈ Tabs.tb) (hi : PI X tg iter (tJ X.K src)) (ok : BlkOk X.N X.env.scope scope own)
    (hg : ∀ (A' : Around) (s : Shared) (H : Hp) (C : Addr) (cl : List (Str × Addr)) (code : Value) (fp : List Addr), Room k A' → PG (gex X A' s H (genEnv scope cl C code builtinsNs X.env) fp) tg (tC' X.K js p))
    (ht : ∀ (A' : Around) (s : Shared) (H : Hp) (C : Addr) (cl : List (Str × Addr)) (code : Value) (fp : List Addr), Room k A' → PTs (gex X A' s H (genEnv scope cl C code builtinsNs X.env) fp) ifs (tB X.K t))
    (he : ∀ (A' : Around) (s : Shared) (H : Hp) (C : Addr) (cl : List (Str × Addr)) (code : Value) (fp : List Addr), Room k A' → PE (gex X A' s H (genEnv scope cl C code builtinsNs X.env) fp) elt (tE X.K f))
    (hcell : (scope.names.all fun y => y.2 != .cell) = true := by decide) (hdot : scope.names.lookup (".0" : Str) = some NameKind.local := by rfl) (hco : scope.isCoroutine = false := by rfl)
    (hj : (js.all fun j => (own.map (·.2)).contains j) = true := by decide) (hs : ∀ v, genFold iter X.env v = pure v := by intro _; rfl)
    (hst : starEach [.GeneratorExp elt [⟨tg, iter, ifs, 0⟩] scope gpos] X.env = (false, eval (.GeneratorExp elt [⟨tg, iter, ifs, 0⟩] scope gpos) X.env) :: starEach [] X.env := by rfl) (hv : own.map (·.2) = vs := by rfl) :
    PE X (.Call (.Name "all" pp) [.GeneratorExp elt [⟨tg, iter, ifs, 0⟩] scope gpos] [] pos) (tE X.K (gxF false vs src p t f)) := by
  subst hv
  exact pe_w (pe_allG hr hgl hm hc hN TB hcode hi ok (fun y hy => by have := List.all_eq_true.mp hcell y hy; simpa using this) hdot hco hg ht he hs hst) (tGx_of (fun j hj' => by
    have := List.all_eq_true.mp hj j hj'
    simpa using this) hP)
end
end PF

set_option Elab.async false
set_option linter.all false
set_option maxRecDepth 100000
/-! PFA: more rules: blocks by a Bool, gcd, a list turned, two names at once, +=; defs that take the script. -/
namespace PF
open PySem PySem.Spec PyProof.Rows L2
variable [Tabs]

/-! ### blocks -/
def blkB (N : List Str) (sc scope : Scope) (own : List (Str × Nat)) : Bool :=
  scope.kind == .function && scope.names.all (fun y => scope.names.lookup y.1 == some y.2) && own.all (fun p => N[p.2]? == some p.1) &&
    scope.names.all (fun y => y.2 != .free || sc.names.lookup y.1 == some .cell || sc.names.lookup y.1 == some .free) &&
    scope.names.all (fun y => !(y.2 == .local || y.2 == .cell) || (own.map (·.1)).contains y.1 || !N.contains y.1)
theorem pfBlk {N : List Str} {sc scope : Scope} {own : List (Str × Nat)} (h : blkB N sc scope own = true) : BlkOk N sc scope own := by
  unfold blkB at h
  simp only [Bool.and_eq_true, List.all_eq_true] at h
  obtain ⟨⟨⟨⟨h1, h2⟩, h3⟩, h4⟩, h5⟩ := h
  refine ⟨by simpa using h1, fun y hy => by simpa using h2 y hy, fun p hp => by simpa using h3 p hp, fun y hy e => ?_, fun y hy e => ?_⟩
  · have := h4 y hy
    rw [e] at this
    simpa using this
  · have := h5 y hy
    rcases e with e | e <;> rw [e] at this <;> simpa using this

/-! ### gcd -/
section
variable {X : Cx} {K : PySem.W.Frag} {e a b : Expr} {es : List Expr} {x : Str} {p pos : Pos} {f : Rho → Option D} {fs : List (Rho → Option D)}
theorem g_gcd (hg : Gl X x) (hm : X.mg x = some (.builtin "math.gcd")) (ha : PA X (e :: es) (aT X.K fs)) (hdb : (x == ("__debug__" : Str)) = false := by decide)
    (he : starEach (e :: es) X.env = (false, eval e X.env) :: starEach es X.env := by rfl) (hpl : (backTo pos (starEach es X.env)).any (·.1) = false := by rfl) : PE X (.Call (.Name x p) (e :: es) [] pos) (tE X.K (app gcdD fs)) :=
  pe_w (pe_callBfun cr_gcd hg hm ha hdb he hpl) (tCB_of cs_gcd)
/-! ### e[::-1] -/
def revLD : D → Option D
  | .list ds => some (.list ds.reverse)
  | _ => none
theorem g_revL {k : Nat} {p1 p2 p3 : Pos} (h : PE X e (tT X.K f)) : PE X (.Subscript e (.Slice none none (some (.UnaryOp .USub (.Constant (.int 1) k p1) p2)) p3) pos) (tF X.K (un revLD f)) := pe_w (pe_revL h) fun σ H Q ⟨S, ρ, d, h1, h2, h3⟩ => by
  obtain ⟨d', h4, h5⟩ := Option.bind_eq_some_iff.mp h2
  cases d' <;> simp only [revLD, reduceCtorEq] at h5
  cases h5
  refine ⟨S, ρ, _, h1, h4, fun v H' e r => ?_⟩
  obtain ⟨q, vs, rfl, hq, z, rp⟩ := r.list
  exact ⟨q, vs, rfl, SqL.of hq, fun l hl => h3 _ _ (e.trans (same_upd hl)) ⟨_, rfl, DpF.new e hl (by rw [List.length_reverse]; exact z) rp.rev⟩⟩
/-! ### x, y = a, b -/
def parS (i j : Nat) (f g : Rho → Option D) : Rho → Option Out := fun ρ => (f ρ).bind fun d => (g ρ).map fun d' => .nx ((ρ.set i (some (.val d))).set j (some (.val d')))
theorem gs_par {i j : Nat} {st : Stmt} {f g : Rho → Option D} (h : PS X st (tPar i j (aE K [f, g]))) : PS X st (tS K (parS i j f g)) := ps_w h fun E σ H ⟨H0, S, ρ, out, q1, q2, q3⟩ => by
  obtain ⟨d, h4, h5⟩ := Option.bind_eq_some_iff.mp q2
  obtain ⟨d', h6, h7⟩ := Option.map_eq_some_iff.mp h5
  subst h7
  refine ⟨_, ρ, [d, d'], q1.eok, by simp [argsF, h4, h6], fun vs H' e r => ?_⟩
  cases r with
  | @cons v vs _ _ rv rr =>
    cases rr with
    | @cons w ws _ _ rw rr =>
      cases rr
      refine ⟨v, w, rfl, q3 _ _ ?_⟩
      have s1 := (q1.mono e).setVal (i := i) rv
      refine s1.setVal (i := j) (Rp.mono (hide_to (Same.refl _) fun p hp => .inl ?_) rw)
      rcases hp with hp | ⟨k, ⟨ds, hk⟩, hv⟩
      · exact .inl hp
      · refine .inr ⟨k, ?_⟩
        by_cases hik : i = k
        · subst hik
          have hlt : i < ρ.length := by simpa using (List.getElem?_eq_some_iff.mp hk).1
          rw [List.getElem?_set_self hlt] at hk
          cases hk
        · rw [List.getElem?_set_ne hik] at hk hv
          exact ⟨⟨ds, hk⟩, hv⟩
/-! ### += of ints -/
def addI : D → D → Option D
  | .int i, .int j => some (.int (i + j))
  | _, _ => none
theorem os_addI : OpS K (rI0 fun i j => .int (i + j)) addI := by
  intro S H x y a b d Q hs ha hb hg k
  cases a <;> cases b <;> simp only [addI, reduceCtorEq] at hg
  cases hg
  have e1 := ha.int; have e2 := hb.int
  subst e1 e2
  exact ⟨_, _, rfl, rfl, k _ H (Same.refl H) (.int _)⟩

/-! ### the script -/
def lenS (i : Nat) : Rho → Option D := fun ρ => match ρ[i]? with | some (some (.scr ns)) => some (.int ns.length) | _ => none
def ixS (i : Nat) (f : Rho → Option D) : Rho → Option D := fun ρ => match ρ[i]? with | some (some (.scr ns)) => (f ρ).bind fun d => (match d with | .int k => (atI ns k).map .int | _ => none) | _ => none
theorem scr_at {i : Nat} {ρ : Rho} {S : AS} {H : Hp} {σ : L2.St} {ns : List Int} (h : EOk K S H σ ρ) (e : ρ[i]? = some (some (.scr ns))) : ∃ a, σ[i]? = some (some (.ref a)) ∧ SqL K (hide S H) a (ns.map V.int) ∧ ns.length ≤ 63 := by
  obtain ⟨v, h1, a, rfl, h3, h4⟩ := h.sl i _ e
  exact ⟨a, h1, h3, h4⟩
theorem g_lenS {i : Nat} (hg : Gl X x) (hm : X.mg x = none) (hv : bootBuiltins x = some (.builtin "len")) (h : PE X e (tVar i)) (hn : x ≠ "__name__" := by decide) (hdb : (x == ("__debug__" : Str)) = false := by decide)
    (he : starEach [e] X.env = (false, eval e X.env) :: starEach [] X.env := by rfl) (hpl : (backTo pos (starEach [] X.env)).any (·.1) = false := by rfl) : PE X (.Call (.Name x p) [e] [] pos) (tE X.K (lenS i)) :=
  pe_w (pe_callB call_len hg hm hv (pa_cons h pa_nil he) hn hdb he hpl) fun σ H Q ⟨S, ρ, d, h1, h2, h3⟩ => by
    unfold lenS at h2
    split at h2
    · rename_i ns q
      cases h2
      obtain ⟨a, hσ, hS, hl⟩ := scr_at h1 q
      refine ⟨_, hσ, ?_⟩
      have := h3 _ H (Same.refl H) (.int _)
      exact ⟨_, _, rfl, .inl ⟨_, hide_sub.seq hS, rfl⟩, by rw [List.length_map]; exact this⟩
    · cases h2
theorem g_ixS {i : Nat} (h : PE X a (tVar i)) (hb : PE X b (tT X.K f)) (hs : PlainIx b) : PE X (.Subscript a b pos) (tE X.K (ixS i f)) := pe_w (pe_ix ix_seq h hb hs) fun σ H Q ⟨S, ρ, d, h1, h2, h3⟩ => by
  unfold ixS at h2
  split at h2
  · rename_i ns q
    obtain ⟨d1, h4, h5⟩ := Option.bind_eq_some_iff.mp h2
    cases d1 <;> simp only [reduceCtorEq] at h5
    rename_i k
    obtain ⟨z, h6, h7⟩ := Option.map_eq_some_iff.mp h5
    subst h7
    obtain ⟨a, hσ, hS, hl⟩ := scr_at h1 q
    refine ⟨_, hσ, S, ρ, _, h1, h4, fun v H' e r => ?_⟩
    have e2 := r.int
    subst e2
    have hz : atI (ns.map V.int) k = some (.int z) := by
      unfold atI at h6 ⊢
      rw [List.length_map]
      obtain ⟨j, h8, h9⟩ := Option.bind_eq_some_iff.mp h6
      rw [h8]
      show (ns.map V.int)[j]? = _
      rw [List.getElem?_map, h9]
      rfl
    exact .inl ⟨a, _, k, _, rfl, rfl, e.seq (hide_sub.seq hS), hz, h3 _ H' e (.int _)⟩
  · cases h2
/-- a def whose first parameter is the script -/
def spS (K : PySem.W.Frag) (n : Nat) (f : List Int → List D → Option D) : Sp := fun vs H Q _ => ∃ S a ns ws ds d, vs = .ref a :: ws ∧ HidOk S H ∧ SqL K (hide S H) a (ns.map V.int) ∧ ns.length ≤ 63 ∧ RpAll K (hide S H) ws ds ∧ ds.length = n ∧ f ns ds = some d ∧ ∀ v H', Same H H' → Rp K (hide S H') v d → Q v H'
def appSc (i : Nat) (f : List Int → List D → Option D) (fs : List (Rho → Option D)) : Rho → Option D := fun ρ => match ρ[i]? with | some (some (.scr ns)) => (argsF fs ρ).bind (f ns) | _ => none
theorem g_callS {i k n : Nat} {fa : Addr} {fd : FuncData} {ps : List Str} {g : List Int → List D → Option D} (F : FnOk X.prog X.w X.K X.mg X.base CX0 k fa fd ps (spS X.K n g)) (hr : Room k X.A) (hg : Gl X x) (hm : X.mg x = some (.ref fa)) (hk : PySem.W.keepIn X.K (.ref fa) = true) (hb : Binds X.K fd ps [])
    (h : PE X e (tVar i)) (ha : PA X es (aE X.K fs)) (hn : decide (fs.length = n) = true)
    (hd : (x == ("__debug__" : Str)) = false := by decide) (he : starEach (e :: es) X.env = (false, eval e X.env) :: starEach es X.env := by rfl) (hpl : (backTo pos (starEach es X.env)).any (·.1) = false := by rfl) :
    PE X (.Call (.Name x p) (e :: es) [] pos) (tE X.K (appSc i g fs)) :=
  pe_w (pe_call F hr hg hm hk hb .nil pass0 (pa_cons h ha he) hd he hpl) fun σ H Q ⟨S, ρ, d, h1, h2, h3⟩ => by
    unfold appSc at h2
    split at h2
    · rename_i ns q
      obtain ⟨ds, h4, h5⟩ := Option.bind_eq_some_iff.mp h2
      obtain ⟨a, hσ, hS, hl⟩ := scr_at h1 q
      refine ⟨_, hσ, S, ρ, ds, h1, h4, fun vs H' e r => ?_⟩
      show spS X.K n g ((V.ref a :: vs) ++ []) H' Q E0
      rw [List.append_nil]
      exact ⟨S, a, ns, vs, ds, d, rfl, h1.hid.mono e, (hide_mono e).seq hS, hl, r, by rw [argsF_length h4]; exact of_decide_eq_true hn, h5, fun v H2 e2 r2 => h3 v H2 (e.trans e2) r2⟩
    · cases h2
end
def envS (n m : Nat) (ns : List Int) (ds : List D) : Rho := some (.scr ns) :: env0 n m ds
def runS (n m : Nat) (g : Rho → Option Out) (ns : List Int) (ds : List D) : Option D := if ds.length = n then outD (g (envS n m ns ds)) else none
section
variable {P : Program} {w : World} {K : PySem.W.Frag} {mg : Str → Option Value} {base : Heap}
theorem sok_startS {H : Hp} {S : AS} {vs : List V} {ds : List D} {N : List Str} {x : Str} {n : Nat} {a : Addr} {ns : List Int} (hs : HidOk S H) (hS : SqL K (hide S H) a (ns.map V.int)) (hz : ns.length ≤ 63) (r : RpAll K (hide S H) vs ds) (hl : ds.length = n) (hn : n ≤ N.length) :
    SOk K H S H (start (x :: N) (.ref a :: vs)) (envS n N.length ns ds) := by
  have s0 := sok_start (N := N) hs r hl hn
  have e1 : start (x :: N) (.ref a :: vs) = some (V.ref a) :: start N vs := by
    unfold L2.start
    simp
  rw [e1]
  have no : ∀ i b, ¬ OwnIx (some (V.ref a) :: start N vs) (envS n N.length ns ds) i b := fun i b ⟨⟨es, h1⟩, _⟩ => by
    cases i with
    | zero => cases h1
    | succ i =>
      have h1' : (env0 n N.length ds)[i]? = some (some (.own es)) := h1
      unfold env0 at h1'
      by_cases hi : i < ds.length
      · rw [List.getElem?_append_left (by simpa using hi), List.getElem?_map] at h1'
        obtain ⟨d, _, h2⟩ := Option.map_eq_some_iff.mp h1'
        cases h2
      · rw [List.getElem?_append_right (by simpa using Nat.le_of_not_lt hi), List.getElem?_replicate] at h1'
        split at h1' <;> cases h1'
  have no0 : ∀ i b, ¬ OwnIx (start N vs) (env0 n N.length ds) i b := fun i b ⟨⟨es, h1⟩, h2⟩ => no (i + 1) b ⟨⟨es, h1⟩, h2⟩
  have hh : hidS S (some (V.ref a) :: start N vs) (envS n N.length ns ds) = S := by
    funext b
    unfold hidS
    simp [no]
  have hh0 : hidS S (start N vs) (env0 n N.length ds) = S := by
    funext b
    unfold hidS
    simp [no0]
  refine ⟨Same.refl H, ?_, hs, fun i s q => ?_, fun i b o => (no i b o).elim, fun i j b o _ => (no i b o).elim⟩
  · show (env0 n N.length ds).length + 1 = (start N vs).length + 1
    rw [s0.len]
  · rw [hh]
    cases i with
    | zero =>
      cases q
      exact ⟨_, rfl, a, rfl, hS, hz⟩
    | succ i =>
      obtain ⟨v, h1, h2⟩ := s0.sl i s q
      rw [hh0] at h2
      exact ⟨v, h1, h2⟩
theorem fn_runS {x y : Str} {st : Stmt} {f : Addr} {fd : FuncData} {N ps : List Str} {k n m : Nat} {g : Rho → Option Out} (F : FunD K x x (defArgs st) (defBody st) (defScope st) [] [] f fd) (S : FnScope (y :: N) ps (defScope st)) (hp : ps.length = n + 1) (hm : N.length = m) (hn : n ≤ m)
    (hb : ∀ (A : Around) (outer : List Env) (s : Shared) (H : Hp) (E : XK), Room k (A.deeper (envOfC x (defScope st) s.heap.objs.size f fd.code)) → PSs (cxOf CX0 P w K mg base (y :: N) x (defScope st) f fd.code A outer s H E).nox (defBody st) (tS K g)) :
    FnOk P w K mg base CX0 (k + 1) f fd ps (spS K n (runS n m g)) := by
  refine def_ok F S (fun vs H Q E h => ?_) (fun A outer s H vs Q E hr h => ?_)
  · obtain ⟨S, a, ns, ws, ds, d, rfl, _, _, _, r, hl, _⟩ := h
    rw [List.length_cons, r.length, hl, hp]
  · obtain ⟨S, a, ns, ws, ds, d, rfl, hs, hS, hz, r, hl, hf, q⟩ := h
    refine ⟨_, hb A outer s H E hr, ?_⟩
    unfold runS at hf
    rw [if_pos hl] at hf
    cases hg : g (envS n m ns ds) with
    | none => rw [hg] at hf; cases hf
    | some o =>
      rw [hg] at hf
      subst hm
      refine ⟨H, S, envS n N.length ns ds, o, sok_startS hs hS hz r hl hn, hg, ?_⟩
      cases o with
      | rt d' => cases hf; exact fun v H' e r => q v H' e r
      | nx ρ => cases hf; exact fun σ' H' s => q .non H' s.ex .non
      | bk ρ => cases hf
      | ct ρ => cases hf
end
end PF

set_option Elab.async false
set_option linter.all false
set_option maxRecDepth 100000
set_option maxHeartbeats 1000000
/-! PFB: the end of a law: the head's facts, the law's promise. -/
namespace PF
open PySem PySem.Spec PyProof.Rows L2 GxR

abbrev dd (x : Str) (st : Stmt) : He.DefD := ⟨(x, none), x, x, defArgs st, defBody st, defScope st, [], []⟩
section
variable {fa : List He.Fa} {fn : List He.DefD} {K : PySem.W.Frag} {h : Heap} {mg : Str → Option Value}
theorem def_fun (c : He.SaysD fa fn K) {x : Str} {st : Stmt} (hd : dd x st ∈ fn) : ∃ fd, FunD K x x (defArgs st) (defBody st) (defScope st) [] [] (He.ga K x) fd := c.defs hd
theorem def_glo (X : K.In h) (G : h.Ns mainGlobals mg) (c : He.SaysD fa fn K) {x : Str} (hd : He.Fa.glo x ∈ fa) : mg x = some (.ref (He.ga K x)) := He.glo_ok X G (c.facts hd)
theorem def_free (X : K.In h) (G : h.Ns mainGlobals mg) (c : He.SaysD fa fn K) {x : Str} (hd : He.Fa.free x ∈ fa) : mg x = none := He.free_ok X G (c.facts hd)
theorem def_code {x : Str} {st : Stmt} {fd : FuncData} (F : FunD K x x (defArgs st) (defBody st) (defScope st) [] [] (He.ga K x) fd) : fd.code = .ref (He.cT K (x, none)).1 := by
  obtain ⟨oc, od, dV, kV, doc, pm, an, cdv, ct, osl, rfl, lk, hcd, _, _⟩ := F.ex
  obtain ⟨c, hc⟩ := He.codeIn_ref hcd
  have e := He.codeOf_eq (p := (x, none)) lk (show (PySem.W.fnOf x x (defArgs st) (defBody st) (defScope st) dV kV doc pm an cdv ct).code = .ref c from hc)
  show cdv = .ref (He.codeOf K (x, none))
  rw [e, hc]
theorem law_end {l : PySem.W.OpenLaw} {w : World} {ts : List He.Tab} {tf : List He.Defn} {ex : PySem.W.Frag → Bool} {f : Addr} {fd : FuncData} {k : Nat} {d_law : List Int → List D → Option D} (X : K.In h) (c : He.SaysX fa fn ts tf ex w h K)
    (hb : ∀ (s : Shared) (v : Value), BindsTo s fd ⟨[v], []⟩ [("script", v)]) (dl : ∀ ns : List Int, ns.length ≤ 63 → d_law ns [] = some (.bool true))
    (ok : ∀ base : Heap, K.In base → base.Ns mainGlobals mg → (∀ p ∈ tf.map (He.cT K), TabB base mg p.1 p.2) → FnOk l.prog w K mg base CX0 k f fd ["script"] (@spS ⟨(tf.map (He.cT K)).map (·.2)⟩ K 0 d_law)) :
    LamX.LawAtS l w K CX0 k 63 "script" mg f h := by
  refine ⟨fd, tf.map (He.cT K), @spS ⟨(tf.map (He.cT K)).map (·.2)⟩ K 0 d_law, fun p hp => ?_, fun p hp => ?_, fun p hp => ?_, hb, fun H a ns hl _ hT hS => ?_, fun base b1 b2 t => ok base b1 b2 fun p hp => ⟨(t p hp).code, (t p hp).bm, (t p hp).gP⟩⟩
  · obtain ⟨q, hq, rfl⟩ := List.mem_map.mp hp
    exact c.empty q hq
  · obtain ⟨q, hq, rfl⟩ := List.mem_map.mp hp
    exact c.out q hq
  · obtain ⟨q, hq, rfl⟩ := List.mem_map.mp hp
    exact PySem.W.codeHd_of_K X (c.hd q hq)
  · letI : Tabs := ⟨(tf.map (He.cT K)).map (·.2)⟩
    refine ⟨fun _ => False, a, ns, [], [], .bool true, rfl, ⟨fun p z => z.elim, fun P hP => ?_⟩, hide_no.seq hS, hl, .nil, rfl, dl ns hl, fun v H' e r => ?_⟩
    · obtain ⟨q, hq, rfl⟩ := List.mem_map.mp (show P ∈ (tf.map (He.cT K)).map (·.2) from hP)
      exact ⟨#[], hT q hq, trivial⟩
    · cases r
      rfl
end
end PF

set_option Elab.async false
set_option linter.all false
set_option maxRecDepth 100000
/-! PT: loops and comprehensions upon typed items. -/
namespace PF
open PySem PySem.Spec PyProof.Rows L2
local instance tabs0 : Tabs := ⟨[]⟩

theorem forL_nil (p : D → Rho → Option Rho) (b : Rho → Option Out) (ρ : Rho) : forL p b [] ρ = some (.nx ρ) := rfl
theorem forL_cons (p : D → Rho → Option Rho) (b : Rho → Option Out) (d : D) (ds : List D) (ρ : Rho) : forL p b (d :: ds) ρ = match (p d ρ).bind b with
    | some (.nx ρ2) => forL p b ds ρ2
    | some (.ct ρ2) => forL p b ds ρ2
    | some (.bk ρ2) => some (.nx ρ2)
    | some (.rt x) => some (.rt x)
    | none => none := by
  show (p d ρ).bind _ = _
  cases p d ρ with
  | none => rfl
  | some r => rfl
/-- an invariant, by the number of turns done -/
theorem forL_inv {α : Type} {p : D → Rho → Option Rho} {b : Rho → Option Out} (f : α → D) (P : Nat → Rho → Prop) : ∀ (xs : List α) (k : Nat) (ρ : Rho), P k ρ →
    (∀ (i : Nat) (x : α) (ρ : Rho), xs[i]? = some x → P (k + i) ρ → ∃ ρ', (p (f x) ρ).bind b = some (.nx ρ') ∧ P (k + i + 1) ρ') → ∃ ρ', forL p b (xs.map f) ρ = some (.nx ρ') ∧ P (k + xs.length) ρ'
  | [], k, ρ, h, _ => ⟨ρ, rfl, h⟩
  | x :: xs, k, ρ, h, st => by
    obtain ⟨ρ1, e1, h1⟩ := st 0 x ρ rfl h
    obtain ⟨ρ2, e2, h2⟩ := forL_inv f P xs (k + 1) ρ1 h1 fun i y r hy hp => by
      have := st (i + 1) y r hy (by rw [show k + (i + 1) = k + 1 + i by omega]; exact hp)
      rw [show k + (i + 1) + 1 = k + 1 + i + 1 by omega] at this
      exact this
    refine ⟨ρ2, ?_, by rw [List.length_cons, show k + (xs.length + 1) = k + 1 + xs.length by omega]; exact h2⟩
    rw [List.map_cons, forL_cons, e1]
    exact e2
/-- a state that each turn steps -/
theorem forL_fold {α σ : Type} {p : D → Rho → Option Rho} {b : Rho → Option Out} (f : α → D) (R : σ → Rho) (step : σ → α → σ) (P : σ → Prop) : ∀ (xs : List α) (s : σ), P s →
    (∀ x ∈ xs, ∀ s, P s → (p (f x) (R s)).bind b = some (.nx (R (step s x))) ∧ P (step s x)) → forL p b (xs.map f) (R s) = some (.nx (R (xs.foldl step s))) ∧ P (xs.foldl step s)
  | [], s, h, _ => ⟨rfl, h⟩
  | x :: xs, s, h, st => by
    obtain ⟨e1, h1⟩ := st x List.mem_cons_self s h
    have := forL_fold f R step P xs (step s x) h1 fun y hy => st y (List.mem_cons_of_mem _ hy)
    rw [List.map_cons, forL_cons, e1]
    exact this
/-- the first that ends it -/
theorem forL_find {α : Type} {p : D → Rho → Option Rho} {b : Rho → Option Out} (f : α → D) (ρ : Rho) (q : α → Option D) : ∀ (xs : List α),
    (∀ x ∈ xs, (p (f x) ρ).bind b = some (match q x with | some d => .rt d | none => .nx ρ)) → forL p b (xs.map f) ρ = some (match xs.findSome? q with | some d => .rt d | none => .nx ρ)
  | [], _ => rfl
  | x :: xs, h => by
    have h1 := h x List.mem_cons_self
    have ih := forL_find f ρ q xs fun y hy => h y (List.mem_cons_of_mem _ hy)
    rw [List.map_cons, forL_cons, h1, List.findSome?_cons]
    cases q x with
    | some d => rfl
    | none => exact ih
theorem compL_map {α : Type} {p : D → Rho → Option Rho} {t : Rho → Option Bool} {f : Rho → Option D} {ρ : Rho} (g : α → D) (q : α → Bool) (v : α → D) : ∀ (xs : List α),
    (∀ x ∈ xs, ∃ ρ1, p (g x) ρ = some ρ1 ∧ t ρ1 = some (q x) ∧ (q x = true → f ρ1 = some (v x))) → compL p t f ρ (xs.map g) = some ((xs.filter q).map v)
  | [], _ => rfl
  | x :: xs, h => by
    obtain ⟨ρ1, h1, h2, h3⟩ := h x List.mem_cons_self
    have ih := compL_map g q v xs fun y hy => h y (List.mem_cons_of_mem _ hy)
    show (p (g x) ρ).bind _ = _
    rw [h1]
    show (t ρ1).bind _ = _
    rw [h2]
    show (if q x = true then _ else _) = _
    cases hq : q x with
    | false =>
      rw [if_neg (by decide), List.filter_cons_of_neg (by simp [hq])]
      exact ih
    | true =>
      rw [if_pos rfl, h3 hq, List.filter_cons_of_pos hq]
      show (compL p t f ρ (xs.map g)).map _ = _
      rw [ih]
      rfl
theorem gxL_any {α : Type} {p : D → Rho → Option Rho} {t : Rho → Option Bool} {f : Rho → Option D} {ρ : Rho} (g : α → D) (c : α → Bool) : ∀ (xs : List α),
    (∀ x ∈ xs, ∃ ρ1, p (g x) ρ = some ρ1 ∧ t ρ1 = some true ∧ f ρ1 = some (.bool (c x))) → gxL true p t f ρ (xs.map g) = some (xs.any c)
  | [], _ => rfl
  | x :: xs, h => by
    obtain ⟨ρ1, h1, h2, h3⟩ := h x List.mem_cons_self
    have ih := gxL_any g c xs fun y hy => h y (List.mem_cons_of_mem _ hy)
    show (p (g x) ρ).bind _ = _
    rw [h1]
    show (t ρ1).bind _ = _
    rw [h2]
    show (f ρ1).bind _ = _
    rw [h3]
    show (if c x = true then some true else _) = _
    rw [List.any_cons]
    cases hc : c x with
    | true => rfl
    | false => exact ih
theorem gxL_all {α : Type} {p : D → Rho → Option Rho} {t : Rho → Option Bool} {f : Rho → Option D} {ρ : Rho} (g : α → D) (c : α → Bool) : ∀ (xs : List α),
    (∀ x ∈ xs, ∃ ρ1, p (g x) ρ = some ρ1 ∧ t ρ1 = some true ∧ f ρ1 = some (.bool (c x))) → gxL false p t f ρ (xs.map g) = some (xs.all c)
  | [], _ => rfl
  | x :: xs, h => by
    obtain ⟨ρ1, h1, h2, h3⟩ := h x List.mem_cons_self
    have ih := gxL_all g c xs fun y hy => h y (List.mem_cons_of_mem _ hy)
    show (p (g x) ρ).bind _ = _
    rw [h1]
    show (t ρ1).bind _ = _
    rw [h2]
    show (f ρ1).bind _ = _
    rw [h3]
    show (if c x = false then some false else _) = _
    rw [List.all_cons]
    cases hc : c x with
    | false => rfl
    | true => exact ih
theorem boolsD_of {α : Type} (c : α → Bool) (xs : List α) : boolsD (xs.map fun x => .bool (c x)) = some (xs.map c) := by
  rw [← boolsD_map (xs.map c), List.map_map]; rfl
theorem intsD_of {α : Type} (c : α → Int) (xs : List α) : intsD (xs.map fun x => .int (c x)) = some (xs.map c) := by
  rw [← intsD_map (xs.map c), List.map_map]; rfl
theorem atI_nat {α : Type} (xs : List α) (i : Nat) : atI xs (i : Int) = xs[i]? := by
  unfold atI ixN
  rw [if_pos (Int.natCast_nonneg i)]
  by_cases h : i < xs.length
  · rw [if_pos (by omega)]; rfl
  · rw [if_neg (by omega), List.getElem?_eq_none (by omega)]; rfl
theorem fmod_nat (a b : Nat) : (a : Int).fmod (b : Int) = ((a % b : Nat) : Int) := by
  rw [Int.fmod_eq_emod_of_nonneg _ (Int.natCast_nonneg b)]; rfl
/-! ### steps -/
section
variable {g h : Rho → Option Out} {c : Rho → Option Bool} {ρ ρ' : Rho} {d : D} {f : Rho → Option D} {ds : List D}
theorem seqS_nx (e : g ρ = some (.nx ρ')) : seqS g h ρ = h ρ' := by
  show seqO (g ρ) h = _
  rw [e]; rfl
theorem seqS_rt (e : g ρ = some (.rt d)) : seqS g h ρ = some (.rt d) := by
  show seqO (g ρ) h = _
  rw [e]; rfl
theorem runF_rt {n m : Nat} (hl : ds.length = n) (e : g (env0 n m ds) = some (.rt d)) : runF n m g ds = some d := by
  unfold runF
  rw [if_pos hl, e]; rfl
theorem runS_rt {n m : Nat} {ns : List Int} (hl : ds.length = n) (e : g (envS n m ns ds) = some (.rt d)) : runS n m g ns ds = some d := by
  unfold runS
  rw [if_pos hl, e]; rfl
theorem ifS_t (e : c ρ = some true) : ifS c g h ρ = g ρ := by
  show (c ρ).bind _ = _
  rw [e]; rfl
theorem ifS_f (e : c ρ = some false) : ifS c g h ρ = h ρ := by
  show (c ρ).bind _ = _
  rw [e]; rfl
theorem asgS_at {i : Nat} (e : f ρ = some d) : asgS i f ρ = some (.nx (ρ.set i (some (.val d)))) := by
  show (f ρ).map _ = _
  rw [e]; rfl
theorem ownS_at {i : Nat} (e : f ρ = some (.list ds)) : ownS i f ρ = some (.nx (ρ.set i (some (.own ds)))) := by
  show ((f ρ).bind listD).map _ = _
  rw [e]; rfl
theorem retS_at (e : f ρ = some d) : retS f ρ = some (.rt d) := by
  show (f ρ).map _ = _
  rw [e]; rfl
theorem appS_at {i : Nat} (h1 : ρ[i]? = some (some (.own ds))) (e : f ρ = some d) (hz : ds.length < sizeLine) : appS i f ρ = some (.nx (ρ.set i (some (.own (ds ++ [d]))))) := by
  have h2 : ownsOf i ρ = some ds := by unfold ownsOf; rw [h1]
  show (ownsOf i ρ).bind _ = _
  rw [h2]
  show (f ρ).bind _ = _
  rw [e]
  exact if_pos hz
theorem klS_nx {js : List Nat} (e : g ρ = some (.nx ρ')) : klS js g ρ = some (.nx (kill js ρ')) := by
  show (g ρ).map _ = _
  rw [e]; rfl
theorem klS_rt {js : List Nat} (e : g ρ = some (.rt d)) : klS js g ρ = some (.rt d) := by
  show (g ρ).map _ = _
  rw [e]; rfl
theorem forS_at {src : Rho → Option (List D)} {p : D → Rho → Option Rho} {b : Rho → Option Out} {o : Option Out} (e : src ρ = some ds) (h : forL p b ds ρ = o) : forS src p b ρ = o := by
  show (src ρ).bind _ = _
  rw [e]; exact h
theorem compF_at {vs : List Nat} {src : Rho → Option (List D)} {p : D → Rho → Option Rho} {t : Rho → Option Bool} {es : List D} (e : src ρ = some ds) (h : compL p t f (kill vs ρ) ds = some es) : compF vs src p t f ρ = some (.list es) := by
  show (src ρ).bind _ = _
  rw [e]
  show (compL p t f (kill vs ρ) ds).map _ = _
  rw [h]; rfl
theorem gxF_at {z b : Bool} {vs : List Nat} {src : Rho → Option (List D)} {p : D → Rho → Option Rho} {t : Rho → Option Bool} (e : src ρ = some ds) (h : gxL z p t f (kill vs ρ) ds = some b) : gxF z vs src p t f ρ = some (.bool b) := by
  show (src ρ).bind _ = _
  rw [e]
  show (gxL z p t f (kill vs ρ) ds).map _ = _
  rw [h]; rfl
theorem app_at {k : List D → Option D} {fs : List (Rho → Option D)} {r : Option D} (e : argsF fs ρ = some ds) (h : k ds = r) : app k fs ρ = r := by
  show (argsF fs ρ).bind k = _
  rw [e]; exact h
theorem bin_at {k : D → D → Option D} {fa fb : Rho → Option D} {a b : D} {r : Option D} (ea : fa ρ = some a) (eb : fb ρ = some b) (h : k a b = r) : PF.bin k fa fb ρ = r := by
  show (fa ρ).bind _ = _
  rw [ea]
  show (fb ρ).bind _ = _
  rw [eb]; exact h
theorem tst_at {b : Bool} (e : f ρ = some (.bool b)) : tst f ρ = some b := by
  show (f ρ).bind isB = _
  rw [e]; rfl
theorem notB_at {b : Bool} (e : c ρ = some b) : notB c ρ = some (!b) := by
  show (c ρ).map _ = _
  rw [e]; rfl
end
theorem app1_at {k : List D → Option D} {f : Rho → Option D} {ρ : Rho} {d : D} {r : Option D} (e : f ρ = some d) (h : k [d] = r) : app k [f] ρ = r := by
  show ((f ρ).bind _).bind k = _
  rw [e]; exact h
theorem app2_at {k : List D → Option D} {f g : Rho → Option D} {ρ : Rho} {d d' : D} {r : Option D} (e : f ρ = some d) (e' : g ρ = some d') (h : k [d, d'] = r) : app k [f, g] ρ = r := by
  show ((f ρ).bind _).bind k = _
  rw [e]
  show ((((g ρ).bind _).bind _)).bind k = _
  rw [e']; exact h
theorem modD_i (a : Int) {b : Int} (h : b ≠ 0) : modD (.int a) (.int b) = some (.int (a.fmod b)) := if_pos h
theorem fdivD_i (a : Int) {b : Int} (h : b ≠ 0) (h2 : b.natAbs < 1073741824) : fdivD (.int a) (.int b) = some (.int (a.fdiv b)) := if_pos ⟨h, h2⟩
theorem toInt_i (a : Int) : toIntD [.int a] = some (.int a) := rfl
theorem addD_i (a b : Int) : addD (.int a) (.int b) = some (.int (a + b)) := rfl
theorem subD_i (a b : Int) : subD (.int a) (.int b) = some (.int (a - b)) := rfl
theorem mul_smallR {a b : Int} (h : smallI b = true) : mulD (.int a) (.int b) = some (.int (a * b)) := by
  show (if smallI a || smallI b then _ else _) = _
  rw [h, Bool.or_true, if_pos rfl]
theorem mul_smallL {a b : Int} (h : smallI a = true) : mulD (.int a) (.int b) = some (.int (a * b)) := by
  show (if smallI a || smallI b then _ else _) = _
  rw [h, Bool.true_or, if_pos rfl]
theorem small_of {a : Int} (h : 0 ≤ a) (h2 : a < 2 ^ 63) : smallI a = true := by
  unfold smallI
  rw [Bool.and_eq_true, decide_eq_true_eq, decide_eq_true_eq]
  exact ⟨by omega, by omega⟩
theorem fmod_lo {a b : Int} (h : 0 < b) : 0 ≤ a.fmod b := by rw [Int.fmod_eq_emod_of_nonneg _ (Int.le_of_lt h)]; exact Int.emod_nonneg _ (by omega)
theorem fmod_hi {a b : Int} (h : 0 < b) : a.fmod b < b := by rw [Int.fmod_eq_emod_of_nonneg _ (Int.le_of_lt h)]; exact Int.emod_lt_of_pos _ h
theorem orB_at {x y : Rho → Option Bool} {ρ : Rho} {a b : Bool} (e : x ρ = some a) (e' : y ρ = some b) : orB x y ρ = some (a || b) := by
  unfold orB
  rw [e, Option.bind_some]
  cases a with
  | true => rfl
  | false => exact e'
theorem andB_at {x y : Rho → Option Bool} {ρ : Rho} {a b : Bool} (e : x ρ = some a) (e' : y ρ = some b) : andB x y ρ = some (a && b) := by
  unfold andB
  rw [e, Option.bind_some]
  cases a with
  | false => rfl
  | true => exact e'
theorem eqD_i (a b : Int) : eqD (.int a) (.int b) = some (.bool (decide (a = b))) := by
  unfold eqD
  rw [if_pos (by rfl)]
  congr 2
theorem neD_i (a b : Int) : neD (.int a) (.int b) = some (.bool (!decide (a = b))) := by
  unfold neD
  rw [if_pos (by rfl)]
  congr 2
theorem ix_list (ds : List D) (i : Nat) : ixD (.list ds) (.int (i : Int)) = ds[i]? := atI_nat ds i
theorem ix_tup (ds : List D) (i : Nat) : ixD (.tuple ds) (.int (i : Int)) = ds[i]? := atI_nat ds i
theorem namP_bind {i : Nat} {d : D} {ρ : Rho} {b : Rho → Option Out} : (namP i d ρ).bind b = b (ρ.set i (some (.val d))) := rfl
theorem whl_stop {c : Rho → Option Bool} {b : Rho → Option Out} {n : Nat} {ρ : Rho} (e : c ρ = some false) : whlL c b (n + 1) ρ = some (.nx ρ) := by
  unfold whlL
  rw [e, Option.bind_some]; rfl
theorem whl_go {c : Rho → Option Bool} {b : Rho → Option Out} {n : Nat} {ρ ρ' : Rho} (e : c ρ = some true) (h : b ρ = some (.nx ρ')) : whlL c b (n + 1) ρ = whlL c b n ρ' := by
  rw [whlL, e, Option.bind_some, if_pos rfl, h]
theorem ifS_at {c : Rho → Option Bool} {g h : Rho → Option Out} {ρ : Rho} {b : Bool} {o : Option Out} (e : c ρ = some b) (h1 : b = true → g ρ = o) (h2 : b = false → h ρ = o) : ifS c g h ρ = o := by
  cases b with
  | true => exact (ifS_t e).trans (h1 rfl)
  | false => exact (ifS_f e).trans (h2 rfl)
theorem k0S_eq {js : List Nat} {g : Rho → Option Out} {ρ : Rho} : k0S js g ρ = g (kill js ρ) := rfl
theorem fzS_eq {i : Nat} {g : Rho → Option Out} {ρ : Rho} : fzS i g ρ = g (frz i ρ) := rfl
theorem rng1_nat {n : Nat} (h : n ≤ 100000) : rng1D (.int (n : Int)) = some ((List.range n).map fun (k : Nat) => .int (k : Int)) := by
  unfold rng1D okR rngL
  have h1 : (decide (-(2 ^ 62) ≤ (n : Int)) && decide ((n : Int) < 2 ^ 62)) = true := by
    rw [Bool.and_eq_true, decide_eq_true_eq, decide_eq_true_eq]; omega
  have h2 : decide (n ≤ sizeLine) = true := by
    rw [decide_eq_true_eq]
    exact Nat.le_trans h (by decide)
  simp only [Int.toNat_natCast, h1, h2, Bool.and_self, if_true, Int.zero_add]
theorem rng1_at {n : Nat} {f : Rho → Option D} {ρ : Rho} (e : f ρ = some (.int (n : Int))) (h : n ≤ 100000) : rng1F f ρ = some ((List.range n).map fun (k : Nat) => .int (k : Int)) := by
  unfold rng1F
  rw [e, Option.bind_some]
  exact rng1_nat h
theorem rng2_nat {a b : Nat} (ha : a ≤ 100000) (hb : b ≤ 100000) : rng2D (.int (a : Int)) (.int (b : Int)) = some ((List.range (b - a)).map fun (k : Nat) => .int ((a + k : Nat) : Int)) := by
  unfold rng2D okR rngL
  have h1 : (decide (-(2 ^ 62) ≤ (a : Int)) && decide ((a : Int) < 2 ^ 62)) = true := by
    rw [Bool.and_eq_true, decide_eq_true_eq, decide_eq_true_eq]; omega
  have h3 : (decide (-(2 ^ 62) ≤ (b : Int)) && decide ((b : Int) < 2 ^ 62)) = true := by
    rw [Bool.and_eq_true, decide_eq_true_eq, decide_eq_true_eq]; omega
  have e : ((b : Int) - (a : Int)).toNat = b - a := by omega
  have h2 : decide (b - a ≤ sizeLine) = true := by
    rw [decide_eq_true_eq]
    exact Nat.le_trans (Nat.le_trans (Nat.sub_le _ _) hb) (by decide)
  simp only [e, h1, h2, h3, Bool.and_self, if_true]
  congr 2
theorem rng2_at {a b : Nat} {f g : Rho → Option D} {ρ : Rho} (e1 : f ρ = some (.int (a : Int))) (e2 : g ρ = some (.int (b : Int))) (ha : a ≤ 100000) (hb : b ≤ 100000) : rng2F f g ρ = some ((List.range (b - a)).map fun (k : Nat) => .int ((a + k : Nat) : Int)) := by
  unfold rng2F
  rw [e1, Option.bind_some, e2, Option.bind_some]
  exact rng2_nat ha hb
theorem gtI_i (a b : Int) : gtI (.int a) (.int b) = some (.bool (decide (b < a))) := rfl
theorem ltI_i (a b : Int) : ltI (.int a) (.int b) = some (.bool (decide (a < b))) := rfl
theorem geI_i (a b : Int) : geI (.int a) (.int b) = some (.bool (decide (b ≤ a))) := rfl
theorem leI_i (a b : Int) : leI (.int a) (.int b) = some (.bool (decide (a ≤ b))) := rfl
theorem ifF_at {c : Rho → Option Bool} {x y : Rho → Option D} {ρ : Rho} {b : Bool} {o : Option D} (e : c ρ = some b) (h1 : b = true → x ρ = o) (h2 : b = false → y ρ = o) : ifF c x y ρ = o := by
  unfold ifF
  rw [e, Option.bind_some]
  cases b with
  | true => exact h1 rfl
  | false => exact h2 rfl
/-- a natural number as data -/
abbrev nD (n : Nat) : D := .int (n : Int)
theorem modN_i (a : Nat) {b : Nat} (h : 0 < b) : modD (nD a) (nD b) = some (nD (a % b)) := (modD_i _ (by omega)).trans (by rw [fmod_nat])
theorem fdivN_i (a : Nat) {b : Nat} (h : 0 < b) (h2 : b < 1073741824) : fdivD (nD a) (nD b) = some (nD (a / b)) := (fdivD_i _ (by omega) (by omega)).trans (by
  rw [Int.fdiv_eq_ediv_of_nonneg _ (Int.natCast_nonneg _)]
  rfl)
theorem addN_i (a b : Nat) : addD (nD a) (nD b) = some (nD (a + b)) := rfl
theorem subN_i {a b : Nat} (h : b ≤ a) : subD (nD a) (nD b) = some (nD (a - b)) := (subD_i _ _).trans (by rw [← Int.ofNat_sub h])
theorem ltN_i (a b : Nat) : ltI (nD a) (nD b) = some (.bool (decide (a < b))) := by
  rw [ltI_i]
  by_cases h : a < b
  · rw [decide_eq_true h, decide_eq_true (by omega)]
  · rw [decide_eq_false h, decide_eq_false (by omega)]
theorem gtN_i (a b : Nat) : gtI (nD a) (nD b) = some (.bool (decide (b < a))) := by
  rw [gtI_i]
  by_cases h : b < a
  · rw [decide_eq_true h, decide_eq_true (by omega)]
  · rw [decide_eq_false h, decide_eq_false (by omega)]
theorem eqN_i (a b : Nat) : eqD (nD a) (nD b) = some (.bool (decide (a = b))) := by
  rw [eqD_i]
  by_cases h : a = b
  · rw [decide_eq_true h, decide_eq_true (by omega)]
  · rw [decide_eq_false h, decide_eq_false (by omega)]
theorem neN_i (a b : Nat) : neD (nD a) (nD b) = some (.bool (!decide (a = b))) := by
  rw [neD_i]
  by_cases h : a = b
  · rw [decide_eq_true h, decide_eq_true (by omega)]
  · rw [decide_eq_false h, decide_eq_false (by omega)]
theorem ixN_l {ns : List Nat} {i : Nat} (h : i < ns.length) : ixD (.list (ns.map nD)) (nD i) = some (nD ns[i]) := by
  rw [show nD i = .int (i : Int) from rfl, ix_list, List.getElem?_map, List.getElem?_eq_getElem h]; rfl
theorem tup2_at {f g : Rho → Option D} {ρ : Rho} {a b : D} (e : f ρ = some a) (e' : g ρ = some b) : tupF [f, g] ρ = some (.tuple [a, b]) := by
  show (argsF [f, g] ρ).map _ = _
  unfold argsF
  rw [e, Option.bind_some]
  unfold argsF
  rw [e', Option.bind_some]
  rfl
theorem andB_f {x y : Rho → Option Bool} {ρ : Rho} (e : x ρ = some false) : andB x y ρ = some false := by
  unfold andB
  rw [e, Option.bind_some]
  rfl
theorem tup5_at {f1 f2 f3 f4 f5 : Rho → Option D} {ρ : Rho} {a b c d e : D} (h1 : f1 ρ = some a) (h2 : f2 ρ = some b) (h3 : f3 ρ = some c) (h4 : f4 ρ = some d) (h5 : f5 ρ = some e) : tupF [f1, f2, f3, f4, f5] ρ = some (.tuple [a, b, c, d, e]) := by
  show (argsF [f1, f2, f3, f4, f5] ρ).map _ = _
  unfold argsF
  rw [h1, Option.bind_some]
  unfold argsF
  rw [h2, Option.bind_some]
  unfold argsF
  rw [h3, Option.bind_some]
  unfold argsF
  rw [h4, Option.bind_some]
  unfold argsF
  rw [h5, Option.bind_some]
  rfl
theorem filter_one {q : Nat → Bool} {m : Nat} : ∀ n, m < n → q m = true → (∀ k, k < n → q k = true → k = m) → (List.range n).filter q = [m]
  | 0, h, _, _ => by omega
  | n + 1, h, hq, hu => by
    rw [List.range_succ, List.filter_append]
    by_cases e : m = n
    · subst e
      have : (List.range m).filter q = [] := by
        rw [List.filter_eq_nil_iff]
        intro k hk hqk
        have hk := List.mem_range.mp hk
        have := hu k (by omega) hqk
        omega
      rw [this, List.filter_cons_of_pos hq]
      rfl
    · have hn : q n = false := by
        cases hb : q n with
        | false => rfl
        | true => exact absurd (hu n (by omega) hb).symm e
      rw [filter_one n (by omega) hq fun k hk => hu k (by omega), List.filter_cons_of_neg (by simp [hn])]
      rfl
theorem appSc_at {i : Nat} {f : List Int → List D → Option D} {fs : List (Rho → Option D)} {ρ : Rho} {ns : List Int} {ds : List D} {r : Option D} (h : ρ[i]? = some (some (.scr ns))) (e : argsF fs ρ = some ds) (k : f ns ds = r) : appSc i f fs ρ = r := by
  unfold appSc
  rw [h]
  show (argsF fs ρ).bind (f ns) = _
  rw [e, Option.bind_some]
  exact k
end PF

set_option Elab.async false
set_option linter.all false
set_option maxRecDepth 100000
set_option maxHeartbeats 4000000

namespace K63
open PySem PySem.Spec PyProof.Rows L2 PF GxR
def top (i : Nat) : Stmt := PySem.Challenge.pw_slopeward_k63_whole_seasons_that_meet.main.body.getD i (.Pass ⟨0, 0, 0, 0⟩)
abbrev s_do_miss : Stmt := top 2
abbrev s_told_miss : Stmt := top 3
abbrev s_common_step : Stmt := top 4
abbrev s_joined_season : Stmt := top 5
abbrev s_next_meeting : Stmt := top 6
abbrev s_told_quiet_day : Stmt := top 7
abbrev s__law_cell : Stmt := top 9
abbrev s__law_draws : Stmt := top 10
abbrev s__law_is_integer : Stmt := top 11
abbrev s__law_is : Stmt := top 12
abbrev s__law_seasons : Stmt := top 13
abbrev s__law_of : Stmt := top 14
abbrev s__law_divisor : Stmt := top 15
abbrev s__law_common : Stmt := top 16
abbrev s_law : Stmt := top 17
/-! what each def computes -/
def d_do_miss : List D → Option D := runF 2 2 (retS (bin neD (bin modD (bin subD (bin ixD (varF 0) (cF (.int 1))) (bin ixD (varF 1) (cF (.int 1)))) (app gcdD [(bin ixD (varF 0) (cF (.int 0))), (bin ixD (varF 1) (cF (.int 0)))])) (cF (.int 0))))
def d_told_miss : List D → Option D := runF 1 3 (seqS (forS (rng1F (app lenD [(varF 0)])) (namP 1) (klS [1] (forS (rng2F (bin addD (varF 1) (cF (.int 1))) (app lenD [(varF 0)])) (namP 2) (ifS (tst (app d_do_miss [(bin ixD (varF 0) (varF 1)), (bin ixD (varF 0) (varF 2))])) (retS (tupF [(varF 1), (varF 2)])) (klS [2] nxS))))) (retS (cF .none)))
def d_common_step : List D → Option D := runF 1 4 (seqS (asgS 1 (cF (.int 1))) (seqS (forS (srcF (varF 0)) (tupP 2 (consP (namP 2) (consP (namP 3) nilP))) (klS [2, 3] (asgS 1 (bin fdivD (bin mulD (varF 1) (varF 2)) (app gcdD [(varF 1), (varF 2)]))))) (retS (varF 1))))
def d_joined_season : List D → Option D := runF 1 5 (seqS (ifS (tst (bin notND (app d_told_miss [(varF 0)]) (cF .none))) (retS (cF .none)) nxS) (seqS (asgP (tupP 2 (consP (namP 1) (consP (namP 2) nilP))) (tupF [(cF (.int 1)), (cF (.int 0))])) (seqS (forS (srcF (varF 0)) (tupP 2 (consP (namP 3) (consP (namP 4) nilP))) (klS [3, 4] (seqS (whlL (tst (bin neD (bin modD (varF 2) (varF 3)) (varF 4))) (augS 2 addI (varF 1)) 64) (asgS 1 (bin fdivD (bin mulD (varF 1) (varF 3)) (app gcdD [(varF 1), (varF 3)])))))) (retS (tupF [(varF 1), (bin modD (varF 2) (varF 1))])))))
def d_next_meeting : List D → Option D := runF 2 3 (seqS (asgS 2 (app d_joined_season [(varF 0)])) (seqS (ifS (tst (bin isND (varF 2) (cF .none))) (retS (cF .none)) (klS [0] nxS)) (retS (bin addD (varF 1) (bin modD (bin subD (bin ixD (varF 2) (cF (.int 1))) (varF 1)) (bin ixD (varF 2) (cF (.int 0))))))))
def d_told_quiet_day : List D → Option D := runF 1 4 (seqS (forS (rng1F (app d_common_step [(varF 0)])) (namP 1) (ifS (notB (tst (gxF true [2, 3] (srcF (varF 0)) (tupP 2 (consP (namP 2) (consP (namP 3) nilP))) yesB (bin eqD (bin modD (varF 1) (varF 2)) (varF 3))))) (retS (varF 1)) (klS [1] nxS))) (retS (cF .none)))
def d__law_cell : List Int → List D → Option D := runS 1 1 (seqS (ifS (tst (bin ltI (varF 1) (lenS 0))) (retS (ixS 0 (varF 1))) nxS) (retS (bin addD (bin mulD (cF (.int 5)) (varF 1)) (cF (.int 3)))))
def d__law_draws : List D → Option D := runF 2 8 (seqS (asgS 2 (app absD [(app toIntD [(varF 0)])])) (seqS (asgS 3 (bin geI (varF 2) (bin powD (cF (.int 10)) (cF (.int 18))))) (seqS (asgS 4 (varF 2)) (seqS (ownS 5 (lstF [])) (k0S [0] (seqS (forS (rng1F (varF 1)) (namP 6) (ifS (andB (tru (varF 3)) (tst (bin gtI (varF 2) (cF (.int 0))))) (klS [6] (seqS (appS 5 (bin modD (app toIntD [(varF 2)]) (cF (.int 5040)))) (asgS 2 (bin fdivD (varF 2) (cF (.int 5040)))))) (klS [6, 7] (seqS (asgS 7 (bin modD (app toIntD [(bin addD (bin addD (bin mulD (varF 4) (cF (.int 48271))) (bin mulD (bin addD (varF 6) (cF (.int 1))) (cF (.int 69621)))) (cF (.int 11)))]) (cF (.int 2147483647)))) (seqS (asgS 7 (bin modD (app toIntD [(bin addD (bin mulD (varF 7) (varF 7)) (bin mulD (cF (.int 40692)) (bin addD (varF 6) (cF (.int 3)))))]) (cF (.int 2147483399)))) (appS 5 (bin modD (app toIntD [(bin fdivD (varF 7) (cF (.int 64)))]) (cF (.int 5040))))))))) (fzS 5 (retS (varF 5)))))))))
def d__law_is_integer : List D → Option D := runF 1 1 (retS (andF (un (isiD "int") (varF 0)) (notF (un (isiD "bool") (varF 0)))))
def d__law_is : Nat → List D → Option D
  | 0 => fun _ => none
  | dn + 1 => runF 2 3 (seqS (ifS (tst (bin isND (varF 1) (cF .none))) (retS (bin isND (varF 0) (cF .none))) nxS) (seqS (ifS (tst (un (isiD "bool") (varF 1))) (retS (andF (un (isiD "bool") (varF 0)) (bin eqD (varF 0) (varF 1)))) nxS) (seqS (ifS (tst (un (isiD "int") (varF 1))) (retS (andF (app d__law_is_integer [(varF 0)]) (bin eqD (varF 0) (varF 1)))) nxS) (seqS (ifS (tst (un (isiD "str") (varF 1))) (retS (andF (un (isiD "str") (varF 0)) (bin eqD (varF 0) (varF 1)))) nxS) (seqS (ifS (orB (notB (tst (un (isiD "tuple") (varF 0)))) (tst (bin neD (app lenD [(varF 0)]) (app lenD [(varF 1)])))) (retS (cF (.bool false))) nxS) (retS (app allD [(compF [2] (rng1F (app lenD [(varF 1)])) (namP 2) yesB (app (d__law_is dn) [(bin ixD (varF 0) (varF 2)), (bin ixD (varF 1) (varF 2))]))])))))))
def d__law_seasons : List D → Option D := runF 2 9 (seqS (asgS 2 (bin ixD (tupF [(cF (.int 4)), (cF (.int 6)), (cF (.int 10)), (cF (.int 2))]) (bin modD (app toIntD [(bin ixD (varF 0) (cF (.int 0)))]) (cF (.int 4))))) (seqS (asgS 3 (bin modD (app toIntD [(bin ixD (varF 0) (cF (.int 1)))]) (cF (.int 60)))) (seqS (ownS 4 (lstF [])) (seqS (forS (rng1F (bin modD (app toIntD [(bin ixD (varF 0) (cF (.int 2)))]) (cF (.int 4)))) (namP 5) (klS [5, 6, 7] (seqS (asgS 6 (app toIntD [(bin ixD (varF 0) (bin addD (cF (.int 3)) (varF 5)))])) (seqS (asgS 7 (bin addD (cF (.int 1)) (bin modD (varF 6) (varF 2)))) (appS 4 (tupF [(varF 7), (bin modD (app toIntD [(ifF (orB (tst (bin ltI (varF 1) (cF (.int 2)))) (tst (bin eqD (bin modD (bin fdivD (varF 6) (cF (.int 10))) (cF (.int 2))) (cF (.int 0))))) (varF 3) (bin fdivD (varF 6) (cF (.int 20))))]) (varF 7))])))))) (seqS (ifS (tst (bin eqD (varF 1) (cF (.int 1)))) (seqS (asgS 7 (bin addD (cF (.int 2)) (bin modD (app toIntD [(bin ixD (varF 0) (cF (.int 6)))]) (bin subD (varF 2) (cF (.int 1)))))) (seqS (asgS 8 (bin modD (bin fdivD (app toIntD [(bin ixD (varF 0) (cF (.int 6)))]) (cF (.int 10))) (varF 7))) (seqS (ownS 4 (bin catD (lstF [(tupF [(varF 7), (varF 8)])]) (slF slL (ownF 4) noPart (partF (cF (.int 2)))))) (seqS (appS 4 (tupF [(varF 7), (ifF (tst (bin gtI (varF 7) (cF (.int 2)))) (bin modD (bin addD (bin addD (varF 8) (cF (.int 1))) (bin modD (app toIntD [(bin ixD (varF 0) (cF (.int 7)))]) (bin subD (varF 7) (cF (.int 1))))) (varF 7)) (bin subD (cF (.int 1)) (varF 8)))])) (ifS (tst (bin eqD (bin modD (bin fdivD (app toIntD [(bin ixD (varF 0) (cF (.int 7)))]) (cF (.int 10))) (cF (.int 2))) (cF (.int 0)))) (klS [0, 1, 2, 3, 7, 8] (ownS 4 (un revLD (ownF 4)))) (klS [0, 1, 2, 3, 7, 8] nxS)))))) (klS [0, 1, 2, 3] nxS)) (retS (app toTupD [(ownF 4)])))))))
def d__law_of : List D → Option D := runF 2 2 (retS (bin eqD (bin modD (app toIntD [(varF 1)]) (bin ixD (varF 0) (cF (.int 0)))) (bin ixD (varF 0) (cF (.int 1)))))
def d__law_divisor : List D → Option D := runF 2 3 (retS (app maxD [(compF [2] (rng2F (cF (.int 1)) (bin addD (app min2D [(varF 0), (varF 1)]) (cF (.int 1)))) (namP 2) (andB (tst (bin eqD (bin modD (app toIntD [(varF 0)]) (varF 2)) (cF (.int 0)))) (tst (bin eqD (bin modD (app toIntD [(varF 1)]) (varF 2)) (cF (.int 0))))) (varF 2))]))
def d__law_common : List D → Option D := runF 1 3 (seqS (asgS 1 (cF (.int 1))) (seqS (forS (srcF (varF 0)) (namP 2) (klS [2] (asgS 1 (bin fdivD (bin mulD (varF 1) (bin ixD (varF 2) (cF (.int 0)))) (app d__law_divisor [(varF 1), (bin ixD (varF 2) (cF (.int 0)))]))))) (retS (varF 1))))
def d_law : List Int → List D → Option D := runS 0 15 (seqS (asgS 1 (app d__law_draws [(appSc 0 d__law_cell [(cF (.int 0))]), (cF (.int 50))])) (seqS (forS (rng1F (cF (.int 4))) (namP 2) (klS [3, 4, 11] (seqS (asgS 3 (app d__law_seasons [(slF slL (varF 1) (partF (bin mulD (cF (.int 8)) (varF 2))) (partF (bin addD (bin mulD (cF (.int 8)) (varF 2)) (cF (.int 8))))), (bin modD (varF 2) (cF (.int 3)))])) (seqS (asgS 4 (app d__law_common [(varF 3)])) (seqS (ifS (notB (tst (app allD [(compF [5] (srcF (varF 3)) (namP 5) yesB (bin eqD (bin modD (app toIntD [(varF 4)]) (bin ixD (varF 5) (cF (.int 0)))) (cF (.int 0))))]))) (retS (cF (.bool false))) nxS) (seqS (ownS 6 (lstF [])) (seqS (forS (rng1F (app lenD [(varF 3)])) (namP 7) (klS [7] (forS (rng2F (bin addD (varF 7) (cF (.int 1))) (app lenD [(varF 3)])) (namP 8) (seqS (asgS 9 (app absD [(bin subD (bin ixD (bin ixD (varF 3) (varF 7)) (cF (.int 1))) (bin ixD (bin ixD (varF 3) (varF 8)) (cF (.int 1))))])) (ifS (tst (bin gtI (bin modD (app toIntD [(varF 9)]) (app d__law_divisor [(bin ixD (bin ixD (varF 3) (varF 7)) (cF (.int 0))), (bin ixD (bin ixD (varF 3) (varF 8)) (cF (.int 0)))])) (cF (.int 0)))) (klS [8, 9] (appS 6 (tupF [(varF 7), (varF 8)]))) (klS [8, 9] nxS)))))) (seqS (asgS 11 (compF [10] (rng1F (varF 4)) (namP 10) (tst (app allD [(compF [5] (srcF (varF 3)) (namP 5) yesB (app d__law_of [(varF 5), (varF 10)]))])) (varF 10))) (seqS (ifS (orB (tst (bin neD (app lenD [(varF 11)]) (ifF (tst (bin eqD (app lenD [(ownF 6)]) (cF (.int 0)))) (cF (.int 1)) (cF (.int 0))))) (orB (andB (tst (bin eqD (varF 2) (cF (.int 0)))) (tst (bin eqD (app lenD [(varF 11)]) (cF (.int 0))))) (andB (tst (bin eqD (varF 2) (cF (.int 1)))) (tst (bin gtI (app lenD [(varF 11)]) (cF (.int 0))))))) (retS (cF (.bool false))) nxS) (seqS (ifS (notB (tst (app (d__law_is 4) [(app d_told_miss [(varF 3)]), (ifF (tst (bin gtI (app lenD [(ownF 6)]) (cF (.int 0)))) (bin ixD (ownF 6) (cF (.int 0))) (cF .none))]))) (retS (cF (.bool false))) (klS [6] nxS)) (seqS (ifS (notB (tst (app (d__law_is 4) [(app d_joined_season [(varF 3)]), (ifF (tst (bin gtI (app lenD [(varF 11)]) (cF (.int 0)))) (tupF [(varF 4), (bin ixD (varF 11) (cF (.int 0)))]) (cF .none))]))) (retS (cF (.bool false))) nxS) (seqS (asgS 12 (compF [10] (rng1F (varF 4)) (namP 10) (tst (bin eqD (app lenD [(compF [5] (srcF (varF 3)) (namP 5) (tst (app d__law_of [(varF 5), (varF 10)])) (varF 5))]) (cF (.int 0)))) (varF 10))) (seqS (ifS (notB (tst (app (d__law_is 4) [(app d_told_quiet_day [(varF 3)]), (ifF (tst (bin gtI (app lenD [(varF 12)]) (cF (.int 0)))) (bin ixD (varF 12) (cF (.int 0))) (cF .none))]))) (retS (cF (.bool false))) (klS [12] nxS)) (seqS (asgS 13 (bin modD (app absD [(app toIntD [(appSc 0 d__law_cell [(bin addD (cF (.int 1)) (varF 2))])])]) (bin addD (bin powD (cF (.int 10)) (cF (.int 9))) (cF (.int 1))))) (forS (srcF (tupF [(cF (.int 0)), (varF 13), (bin modD (app toIntD [(bin ixD (varF 1) (bin addD (cF (.int 32)) (varF 2)))]) (cF (.int 90))), (varF 4), (bin addD (varF 4) (ifF (tst (bin gtI (app lenD [(varF 11)]) (cF (.int 0)))) (bin ixD (varF 11) (cF (.int 0))) (cF (.int 1))))])) (namP 14) (seqS (asgS 15 (bin addD (varF 14) (bin modD (app toIntD [(bin subD (ifF (tst (bin gtI (app lenD [(varF 11)]) (cF (.int 0)))) (bin ixD (varF 11) (cF (.int 0))) (cF (.int 0))) (varF 14))]) (varF 4)))) (seqS (ifS (andB (tst (bin gtI (app lenD [(varF 11)]) (cF (.int 0)))) (orB (notB (tst (app allD [(compF [5] (srcF (varF 3)) (namP 5) yesB (app d__law_of [(varF 5), (varF 15)]))]))) (tst (bin ltI (varF 15) (varF 14))))) (retS (cF (.bool false))) nxS) (ifS (notB (tst (app (d__law_is 4) [(app d_next_meeting [(varF 3), (varF 14)]), (ifF (tst (bin gtI (app lenD [(varF 11)]) (cF (.int 0)))) (varF 15) (cF .none))]))) (retS (cF (.bool false))) (klS [14, 15] nxS))))))))))))))))))) (retS (cF (.bool true)))))
abbrev N_do_miss : List Str := ["one", "other"]
abbrev ps_do_miss : List Str := ["one", "other"]
theorem sc_do_miss : FnScope N_do_miss ps_do_miss (defScope s_do_miss) := ⟨rfl, rfl, rfl, by decide +kernel, rfl, by decide +kernel, by decide +kernel⟩
abbrev N_told_miss : List Str := ["seasons", "i", "j"]
abbrev ps_told_miss : List Str := ["seasons"]
theorem sc_told_miss : FnScope N_told_miss ps_told_miss (defScope s_told_miss) := ⟨rfl, rfl, rfl, by decide +kernel, rfl, by decide +kernel, by decide +kernel⟩
abbrev N_common_step : List Str := ["seasons", "whole", "step", "_"]
abbrev ps_common_step : List Str := ["seasons"]
theorem sc_common_step : FnScope N_common_step ps_common_step (defScope s_common_step) := ⟨rfl, rfl, rfl, by decide +kernel, rfl, by decide +kernel, by decide +kernel⟩
abbrev N_joined_season : List Str := ["seasons", "whole", "day", "step", "first"]
abbrev ps_joined_season : List Str := ["seasons"]
theorem sc_joined_season : FnScope N_joined_season ps_joined_season (defScope s_joined_season) := ⟨rfl, rfl, rfl, by decide +kernel, rfl, by decide +kernel, by decide +kernel⟩
abbrev N_next_meeting : List Str := ["seasons", "day", "season"]
abbrev ps_next_meeting : List Str := ["seasons", "day"]
theorem sc_next_meeting : FnScope N_next_meeting ps_next_meeting (defScope s_next_meeting) := ⟨rfl, rfl, rfl, by decide +kernel, rfl, by decide +kernel, by decide +kernel⟩
abbrev N_told_quiet_day : List Str := ["seasons", "day", "step", "first"]
abbrev ps_told_quiet_day : List Str := ["seasons"]
theorem sc_told_quiet_day : FnScope N_told_quiet_day ps_told_quiet_day (defScope s_told_quiet_day) := ⟨rfl, rfl, rfl, by decide +kernel, rfl, by decide +kernel, by decide +kernel⟩
abbrev KG_told_quiet_day : Nat := 1
abbrev N__law_cell : List Str := ["script", "k"]
abbrev ps__law_cell : List Str := ["script", "k"]
theorem sc__law_cell : FnScope N__law_cell ps__law_cell (defScope s__law_cell) := ⟨rfl, rfl, rfl, by decide +kernel, rfl, by decide +kernel, by decide +kernel⟩
abbrev N__law_draws : List Str := ["cell", "count", "rest", "digits", "seed", "draws", "k", "mixed"]
abbrev ps__law_draws : List Str := ["cell", "count"]
theorem sc__law_draws : FnScope N__law_draws ps__law_draws (defScope s__law_draws) := ⟨rfl, rfl, rfl, by decide +kernel, rfl, by decide +kernel, by decide +kernel⟩
abbrev N__law_is_integer : List Str := ["value"]
abbrev ps__law_is_integer : List Str := ["value"]
theorem sc__law_is_integer : FnScope N__law_is_integer ps__law_is_integer (defScope s__law_is_integer) := ⟨rfl, rfl, rfl, by decide +kernel, rfl, by decide +kernel, by decide +kernel⟩
abbrev N__law_is : List Str := ["value", "due", "at"]
abbrev ps__law_is : List Str := ["value", "due"]
theorem sc__law_is : FnScope N__law_is ps__law_is (defScope s__law_is) := ⟨rfl, rfl, rfl, by decide +kernel, rfl, by decide +kernel, by decide +kernel⟩
abbrev N__law_seasons : List Str := ["draws", "way", "wide", "hidden", "found", "at", "one", "step", "first"]
abbrev ps__law_seasons : List Str := ["draws", "way"]
theorem sc__law_seasons : FnScope N__law_seasons ps__law_seasons (defScope s__law_seasons) := ⟨rfl, rfl, rfl, by decide +kernel, rfl, by decide +kernel, by decide +kernel⟩
abbrev N__law_of : List Str := ["season", "day"]
abbrev ps__law_of : List Str := ["season", "day"]
theorem sc__law_of : FnScope N__law_of ps__law_of (defScope s__law_of) := ⟨rfl, rfl, rfl, by decide +kernel, rfl, by decide +kernel, by decide +kernel⟩
abbrev N__law_divisor : List Str := ["a", "b", "d"]
abbrev ps__law_divisor : List Str := ["a", "b"]
theorem sc__law_divisor : FnScope N__law_divisor ps__law_divisor (defScope s__law_divisor) := ⟨rfl, rfl, rfl, by decide +kernel, rfl, by decide +kernel, by decide +kernel⟩
abbrev N__law_common : List Str := ["seasons", "step", "season"]
abbrev ps__law_common : List Str := ["seasons"]
theorem sc__law_common : FnScope N__law_common ps__law_common (defScope s__law_common) := ⟨rfl, rfl, rfl, by decide +kernel, rfl, by decide +kernel, by decide +kernel⟩
abbrev N_law : List Str := ["script", "draws", "k", "seasons", "whole", "season", "misses", "i", "j", "far", "day", "met", "quiet", "cell", "start", "due"]
abbrev ps_law : List Str := ["script"]
theorem sc_law : FnScope N_law ps_law (defScope s_law) := ⟨rfl, rfl, rfl, by decide +kernel, rfl, by decide +kernel, by decide +kernel⟩
/-- the text, as the walk asks it -/
structure Tx [Tabs] (K : PySem.W.Frag) (mg : Str → Option Value) (base : Heap) where
  fd_do_miss : FuncData
  do_miss : DefAt K mg "do_miss" s_do_miss ps_do_miss (He.ga K "do_miss") fd_do_miss
  fd_told_miss : FuncData
  told_miss : DefAt K mg "told_miss" s_told_miss ps_told_miss (He.ga K "told_miss") fd_told_miss
  fd_common_step : FuncData
  common_step : DefAt K mg "common_step" s_common_step ps_common_step (He.ga K "common_step") fd_common_step
  fd_joined_season : FuncData
  joined_season : DefAt K mg "joined_season" s_joined_season ps_joined_season (He.ga K "joined_season") fd_joined_season
  fd_next_meeting : FuncData
  next_meeting : DefAt K mg "next_meeting" s_next_meeting ps_next_meeting (He.ga K "next_meeting") fd_next_meeting
  fd_told_quiet_day : FuncData
  told_quiet_day : DefAt K mg "told_quiet_day" s_told_quiet_day ps_told_quiet_day (He.ga K "told_quiet_day") fd_told_quiet_day
  c_told_quiet_day : Addr
  p_told_quiet_day : Addr
  tb_told_quiet_day : TabB base mg c_told_quiet_day p_told_quiet_day
  cd_told_quiet_day : fd_told_quiet_day.code = .ref c_told_quiet_day
  tm_told_quiet_day : p_told_quiet_day ∈ Tabs.tb
  fd__law_cell : FuncData
  _law_cell : DefAt K mg "_law_cell" s__law_cell ps__law_cell (He.ga K "_law_cell") fd__law_cell
  fd__law_draws : FuncData
  _law_draws : DefAt K mg "_law_draws" s__law_draws ps__law_draws (He.ga K "_law_draws") fd__law_draws
  fd__law_is_integer : FuncData
  _law_is_integer : DefAt K mg "_law_is_integer" s__law_is_integer ps__law_is_integer (He.ga K "_law_is_integer") fd__law_is_integer
  fd__law_is : FuncData
  _law_is : DefAt K mg "_law_is" s__law_is ps__law_is (He.ga K "_law_is") fd__law_is
  fd__law_seasons : FuncData
  _law_seasons : DefAt K mg "_law_seasons" s__law_seasons ps__law_seasons (He.ga K "_law_seasons") fd__law_seasons
  fd__law_of : FuncData
  _law_of : DefAt K mg "_law_of" s__law_of ps__law_of (He.ga K "_law_of") fd__law_of
  fd__law_divisor : FuncData
  _law_divisor : DefAt K mg "_law_divisor" s__law_divisor ps__law_divisor (He.ga K "_law_divisor") fd__law_divisor
  fd__law_common : FuncData
  _law_common : DefAt K mg "_law_common" s__law_common ps__law_common (He.ga K "_law_common") fd__law_common
  b_abs : mg "abs" = none
  b_all : mg "all" = none
  b_any : mg "any" = none
  b_bool : mg "bool" = none
  b_int : mg "int" = none
  b_isinstance : mg "isinstance" = none
  b_len : mg "len" = none
  b_max : mg "max" = none
  b_min : mg "min" = none
  b_range : mg "range" = none
  b_str : mg "str" = none
  b_tuple : mg "tuple" = none
  b_gcd : mg "gcd" = some (.builtin "math.gcd")
section
variable [Tabs] {P : Program} {w : World} {K : PySem.W.Frag} {mg : Str → Option Value} {base : Heap}
theorem ok_do_miss (T : Tx K mg base) : FnOk P w K mg base CX0 1 (He.ga K "do_miss") T.fd_do_miss ps_do_miss (spF K 2 d_do_miss) :=
  fn_run T.do_miss.fn sc_do_miss rfl rfl (by decide) fun A outer s H E hr =>
  (gs_one (gs_ret (g_cmp (op_neD hr.units) os_ne (g_top (g_op op_modN os_mod (g_top (g_op op_sub os_sub (g_top (g_ix (g_top (g_var (pv 0))) (g_top (g_int pe_int)) (fun _ _ => rfl))) (g_top (g_ix (g_top (g_var (pv 1))) (g_top (g_int pe_int)) (fun _ _ => rfl))))) (g_top (g_gcd (by rfl) T.b_gcd (ga_cons (g_top (g_ix (g_top (g_var (pv 0))) (g_top (g_int pe_int)) (fun _ _ => rfl))) (ga_cons (g_top (g_ix (g_top (g_var (pv 1))) (g_top (g_int pe_int)) (fun _ _ => rfl))) ga_nil)))))) (g_top (g_int pe_int)) (nomark _))))
theorem ok_told_miss (T : Tx K mg base) : FnOk P w K mg base CX0 2 (He.ga K "told_miss") T.fd_told_miss ps_told_miss (spF K 1 d_told_miss) :=
  fn_run T.told_miss.fn sc_told_miss rfl rfl (by decide) fun A outer s H E hr =>
  (gs_cons (gs_for PassesOwn.never rfl (gi_range1 (by rfl) T.b_range (ga_cons (g_top (g_callB call_len cs_len (by rfl) T.b_len (by decide +kernel) (ga_cons (g_top (g_var (pv 0))) ga_nil))) ga_nil)) (gg_name (pg_name (i := 1) sc_told_miss.nd rfl (by first | exact Or.inl rfl | exact Or.inr rfl))) (gs_kl [1] (gs_one (gs_for PassesOwn.never rfl (gi_range2 (by rfl) T.b_range (ga_cons (g_top (g_op op_addA os_add (g_top (g_var (pv 1))) (g_top (g_int pe_int)))) (ga_cons (g_top (g_callB call_len cs_len (by rfl) T.b_len (by decide +kernel) (ga_cons (g_top (g_var (pv 0))) ga_nil))) ga_nil))) (gg_name (pg_name (i := 2) sc_told_miss.nd rfl (by first | exact Or.inl rfl | exact Or.inr rfl))) (gs_one (gs_if (gt_val (g_top (g_call (ok_do_miss T) (hr.mono (by decide)) (by rfl) T.do_miss.mgx T.do_miss.fn.kp T.do_miss.bd (gae_cons (g_ix (g_top (g_var (pv 0))) (g_top (g_var (pv 1))) (fun _ _ => rfl)) (gae_cons (g_ix (g_top (g_var (pv 0))) (g_top (g_var (pv 2))) (fun _ _ => rfl)) gae_nil)) (by decide)))) (gs_one (gs_ret (g_tup (gae_cons (g_var (pv 1)) (gae_cons (g_var (pv 2)) gae_nil)) (by decide)))) (gs_kl [2] gs_nil))))))) (gs_one (gs_ret (g_non pe_non))))
theorem ok_common_step (T : Tx K mg base) : FnOk P w K mg base CX0 1 (He.ga K "common_step") T.fd_common_step ps_common_step (spF K 1 d_common_step) :=
  fn_run T.common_step.fn sc_common_step rfl rfl (by decide) fun A outer s H E hr =>
  (gs_cons (gs_set (ps_set (i := 1) sc_common_step.nd rfl (by first | exact Or.inl rfl | exact Or.inr rfl) (g_int pe_int))) (gs_cons (gs_for PassesOwn.never rfl (gi_seq (g_var (pv 0))) (gg_tup rfl (ggs_cons (gg_name (pg_name (i := 2) sc_common_step.nd rfl (by first | exact Or.inl rfl | exact Or.inr rfl))) (ggs_cons (gg_name (pg_name (i := 3) sc_common_step.nd rfl (by first | exact Or.inl rfl | exact Or.inr rfl))) ggs_nil))) (gs_kl [2, 3] (gs_one (gs_set (ps_set (i := 1) sc_common_step.nd rfl (by first | exact Or.inl rfl | exact Or.inr rfl) (g_op op_fdivN os_fdiv (g_top (g_op op_mul os_mul (g_top (g_var (pv 1))) (g_top (g_var (pv 2))))) (g_top (g_gcd (by rfl) T.b_gcd (ga_cons (g_top (g_var (pv 1))) (ga_cons (g_top (g_var (pv 2))) ga_nil)))))))))) (gs_one (gs_ret (g_var (pv 1))))))
theorem ok_joined_season (T : Tx K mg base) : FnOk P w K mg base CX0 3 (He.ga K "joined_season") T.fd_joined_season ps_joined_season (spF K 1 d_joined_season) :=
  fn_run T.joined_season.fn sc_joined_season rfl rfl (by decide) fun A outer s H E hr =>
  (gs_cons (gs_if (gt_cmp op_notN os_notN (g_top (g_call (ok_told_miss T) (hr.mono (by decide)) (by rfl) T.told_miss.mgx T.told_miss.fn.kp T.told_miss.bd (gae_cons (g_var (pv 0)) gae_nil) (by decide))) (g_top (g_non pe_non)) (nomark _)) (gs_one (gs_ret (g_non pe_non))) gs_nil) (gs_cons (gs_asg (ps_asg (g_tup (gae_cons (g_int pe_int) (gae_cons (g_int pe_int) gae_nil)) (by decide)) (gg_tup rfl (ggs_cons (gg_name (pg_name (i := 1) sc_joined_season.nd rfl (by first | exact Or.inl rfl | exact Or.inr rfl))) (ggs_cons (gg_name (pg_name (i := 2) sc_joined_season.nd rfl (by first | exact Or.inl rfl | exact Or.inr rfl))) ggs_nil))))) (gs_cons (gs_for PassesOwn.never rfl (gi_seq (g_var (pv 0))) (gg_tup rfl (ggs_cons (gg_name (pg_name (i := 3) sc_joined_season.nd rfl (by first | exact Or.inl rfl | exact Or.inr rfl))) (ggs_cons (gg_name (pg_name (i := 4) sc_joined_season.nd rfl (by first | exact Or.inl rfl | exact Or.inr rfl))) ggs_nil))) (gs_kl [3, 4] (gs_cons (gs_while 64 PassesOwn.never (gt_cmp (op_neD hr.units) os_ne (g_top (g_op op_modN os_mod (g_top (g_var (pv 2))) (g_top (g_var (pv 3))))) (g_top (g_var (pv 4))) (nomark _)) (gs_one (gs_aug (ps_aug (i := 2) sc_joined_season.nd rfl (by first | exact Or.inl rfl | exact Or.inr rfl) (g_top (g_var (pv 1))) iop_add) (os_addI)))) (gs_one (gs_set (ps_set (i := 1) sc_joined_season.nd rfl (by first | exact Or.inl rfl | exact Or.inr rfl) (g_op op_fdivN os_fdiv (g_top (g_op op_mul os_mul (g_top (g_var (pv 1))) (g_top (g_var (pv 3))))) (g_top (g_gcd (by rfl) T.b_gcd (ga_cons (g_top (g_var (pv 1))) (ga_cons (g_top (g_var (pv 3))) ga_nil))))))))))) (gs_one (gs_ret (g_tup (gae_cons (g_var (pv 1)) (gae_cons (g_op op_modN os_mod (g_top (g_var (pv 2))) (g_top (g_var (pv 1)))) gae_nil)) (by decide)))))))
theorem ok_next_meeting (T : Tx K mg base) : FnOk P w K mg base CX0 4 (He.ga K "next_meeting") T.fd_next_meeting ps_next_meeting (spF K 2 d_next_meeting) :=
  fn_run T.next_meeting.fn sc_next_meeting rfl rfl (by decide) fun A outer s H E hr =>
  (gs_cons (gs_set (ps_set (i := 2) sc_next_meeting.nd rfl (by first | exact Or.inl rfl | exact Or.inr rfl) (g_call (ok_joined_season T) (hr.mono (by decide)) (by rfl) T.joined_season.mgx T.joined_season.fn.kp T.joined_season.bd (gae_cons (g_var (pv 0)) gae_nil) (by decide)))) (gs_cons (gs_if (gt_cmp op_isN os_isN (g_top (g_var (pv 2))) (g_top (g_non pe_non)) (nomark _)) (gs_one (gs_ret (g_non pe_non))) (gs_kl [0] gs_nil)) (gs_one (gs_ret (g_op op_addA os_add (g_top (g_var (pv 1))) (g_top (g_op op_modN os_mod (g_top (g_op op_sub os_sub (g_top (g_ix (g_top (g_var (pv 2))) (g_top (g_int pe_int)) (fun _ _ => rfl))) (g_top (g_var (pv 1))))) (g_top (g_ix (g_top (g_var (pv 2))) (g_top (g_int pe_int)) (fun _ _ => rfl))))))))))
theorem ok_told_quiet_day (T : Tx K mg base) : FnOk P w K mg base CX0 3 (He.ga K "told_quiet_day") T.fd_told_quiet_day ps_told_quiet_day (spF K 1 d_told_quiet_day) :=
  fn_run T.told_quiet_day.fn sc_told_quiet_day rfl rfl (by decide) fun A outer s H E hr =>
  (gs_cons (gs_for PassesOwn.never rfl (gi_range1 (by rfl) T.b_range (ga_cons (g_top (g_call (ok_common_step T) (hr.mono (by decide)) (by rfl) T.common_step.mgx T.common_step.fn.kp T.common_step.bd (gae_cons (g_var (pv 0)) gae_nil) (by decide))) ga_nil)) (gg_name (pg_name (i := 1) sc_told_quiet_day.nd rfl (by first | exact Or.inl rfl | exact Or.inr rfl))) (gs_one (gs_if (gt_not (gt_val (g_top (g_any (k := KG_told_quiet_day) hr (by rfl) T.b_any rfl sc_told_quiet_day.nd T.tb_told_quiet_day T.cd_told_quiet_day T.tm_told_quiet_day (gi_weak (gi_seq (g_var (pv 0)))) (pfBlk (own := [("step", 2), ("first", 3)]) (N := N_told_quiet_day) (by kernel_rfl)) (fun _ _ _ _ _ _ _ hr => (gc_tup rfl (gcs_cons (gc_name (pg_name (i := 2) sc_told_quiet_day.nd rfl (by first | exact Or.inl rfl | exact Or.inr rfl))) (gcs_cons (gc_name (pg_name (i := 3) sc_told_quiet_day.nd rfl (by first | exact Or.inl rfl | exact Or.inr rfl))) gcs_nil)))) (fun _ _ _ _ _ _ _ hr => gts_nil) (fun _ _ _ _ _ _ _ hr => (g_cmp (op_eqD hr.units) os_eq (g_top (g_op op_modN os_mod (g_top (g_var (pv 1))) (g_top (g_var (pv 2))))) (g_top (g_var (pv 3))) (nomark _))))))) (gs_one (gs_ret (g_var (pv 1)))) (gs_kl [1] gs_nil)))) (gs_one (gs_ret (g_non pe_non))))
theorem ok__law_cell (T : Tx K mg base) : FnOk P w K mg base CX0 1 (He.ga K "_law_cell") T.fd__law_cell ps__law_cell (spS K 1 d__law_cell) :=
  fn_runS T._law_cell.fn sc__law_cell rfl rfl (by decide) fun A outer s H E hr =>
  (gs_cons (gs_if (gt_cmp op_lt (os_cmpI _) (g_top (g_var (pv 1))) (g_top (g_lenS (by rfl) T.b_len (by decide +kernel) (pv 0))) (nomark _)) (gs_one (gs_ret (g_ixS (pv 0) (g_top (g_var (pv 1))) (fun _ _ => rfl)))) gs_nil) (gs_one (gs_ret (g_op op_addA os_add (g_top (g_op op_mul os_mul (g_top (g_int pe_int)) (g_top (g_var (pv 1))))) (g_top (g_int pe_int))))))
theorem ok__law_draws (T : Tx K mg base) : FnOk P w K mg base CX0 1 (He.ga K "_law_draws") T.fd__law_draws ps__law_draws (spF K 2 d__law_draws) :=
  fn_run T._law_draws.fn sc__law_draws rfl rfl (by decide) fun A outer s H E hr =>
  (gs_cons (gs_set (ps_set (i := 2) sc__law_draws.nd rfl (by first | exact Or.inl rfl | exact Or.inr rfl) (g_callB call_abs cs_abs (by rfl) T.b_abs (by decide +kernel) (ga_cons (g_top (g_callTy call_int1 cs_int (by rfl) T.b_int (by decide +kernel) (ga_cons (g_top (g_var (pv 0))) ga_nil))) ga_nil)))) (gs_cons (gs_set (ps_set (i := 3) sc__law_draws.nd rfl (by first | exact Or.inl rfl | exact Or.inr rfl) (g_cmp op_ge (os_cmpI _) (g_top (g_var (pv 2))) (g_top (g_op op_pow os_pow (g_top (g_int pe_int)) (g_top (g_int pe_int)))) (nomark _)))) (gs_cons (gs_set (ps_set (i := 4) sc__law_draws.nd rfl (by first | exact Or.inl rfl | exact Or.inr rfl) (g_var (pv 2)))) (gs_cons (gs_own (ps_set (i := 5) sc__law_draws.nd rfl (by first | exact Or.inl rfl | exact Or.inr rfl) (g_lst gae_nil (by decide)))) (gs_k0 [0] (gs_cons (gs_for PassesOwn.never rfl (gi_range1 (by rfl) T.b_range (ga_cons (g_top (g_var (pv 1))) ga_nil)) (gg_name (pg_name (i := 6) sc__law_draws.nd rfl (by first | exact Or.inl rfl | exact Or.inr rfl))) (gs_one (gs_if (PW.pt (gw_and (gt_tru (g_top (g_var (pv 3)))) (gw_and1 (gt_cmp op_gt (os_cmpI _) (g_top (g_var (pv 2))) (g_top (g_int pe_int)) (nomark _))))) (gs_kl [6] (gs_cons (gs_append (ps_expr (pe_bm PySem.F.plainAttrs_list PySem.F.slot_list_append PySem.F.type_list_append mt_append (pv 5) (pa_cons (g_op op_modN os_mod (g_top (g_callTy call_int1 cs_int (by rfl) T.b_int (by decide +kernel) (ga_cons (g_top (g_var (pv 2))) ga_nil))) (g_top (g_int pe_int))) pa_nil)))) (gs_one (gs_set (ps_set (i := 2) sc__law_draws.nd rfl (by first | exact Or.inl rfl | exact Or.inr rfl) (g_op op_fdivN os_fdiv (g_top (g_var (pv 2))) (g_top (g_int pe_int)))))))) (gs_kl [6, 7] (gs_cons (gs_set (ps_set (i := 7) sc__law_draws.nd rfl (by first | exact Or.inl rfl | exact Or.inr rfl) (g_op op_modN os_mod (g_top (g_callTy call_int1 cs_int (by rfl) T.b_int (by decide +kernel) (ga_cons (g_top (g_op op_addA os_add (g_top (g_op op_addA os_add (g_top (g_op op_mul os_mul (g_top (g_var (pv 4))) (g_top (g_int pe_int)))) (g_top (g_op op_mul os_mul (g_top (g_op op_addA os_add (g_top (g_var (pv 6))) (g_top (g_int pe_int)))) (g_top (g_int pe_int)))))) (g_top (g_int pe_int)))) ga_nil))) (g_top (g_int pe_int))))) (gs_cons (gs_set (ps_set (i := 7) sc__law_draws.nd rfl (by first | exact Or.inl rfl | exact Or.inr rfl) (g_op op_modN os_mod (g_top (g_callTy call_int1 cs_int (by rfl) T.b_int (by decide +kernel) (ga_cons (g_top (g_op op_addA os_add (g_top (g_op op_mul os_mul (g_top (g_var (pv 7))) (g_top (g_var (pv 7))))) (g_top (g_op op_mul os_mul (g_top (g_int pe_int)) (g_top (g_op op_addA os_add (g_top (g_var (pv 6))) (g_top (g_int pe_int)))))))) ga_nil))) (g_top (g_int pe_int))))) (gs_one (gs_append (ps_expr (pe_bm PySem.F.plainAttrs_list PySem.F.slot_list_append PySem.F.type_list_append mt_append (pv 5) (pa_cons (g_op op_modN os_mod (g_top (g_callTy call_int1 cs_int (by rfl) T.b_int (by decide +kernel) (ga_cons (g_top (g_op op_fdivN os_fdiv (g_top (g_var (pv 7))) (g_top (g_int pe_int)))) ga_nil))) (g_top (g_int pe_int))) pa_nil))))))))))) (gs_fz 5 (gs_one (gs_ret (g_var (pv 5)))))))))))
theorem ok__law_is_integer (T : Tx K mg base) : FnOk P w K mg base CX0 1 (He.ga K "_law_is_integer") T.fd__law_is_integer ps__law_is_integer (spF K 1 d__law_is_integer) :=
  fn_run T._law_is_integer.fn sc__law_is_integer rfl rfl (by decide) fun A outer s H E hr =>
  (gs_one (gs_ret (g_and (g_top (g_isi (by rfl) T.b_isinstance (g_top (g_var (pv 0))) (pe_bltn (by rfl) T.b_int (by decide +kernel) rfl))) (g_one (g_not (g_top (g_isi (by rfl) T.b_isinstance (g_top (g_var (pv 0))) (pe_bltn (by rfl) T.b_bool (by decide +kernel) rfl))))))))
theorem ok__law_is (T : Tx K mg base) : ∀ dn : Nat, FnOk P w K mg base CX0 (2 + dn) (He.ga K "_law_is") T.fd__law_is ps__law_is (spF K 2 (d__law_is dn))
  | 0 => fn_none
  | dn + 1 =>
  have ih := ok__law_is T dn
  fn_run T._law_is.fn sc__law_is rfl rfl (by decide) fun A outer s H E hr =>
  (gs_cons (gs_if (gt_cmp op_isN os_isN (g_top (g_var (pv 1))) (g_top (g_non pe_non)) (nomark _)) (gs_one (gs_ret (g_cmp op_isN os_isN (g_top (g_var (pv 0))) (g_top (g_non pe_non)) (nomark _)))) gs_nil) (gs_cons (gs_if (gt_val (g_top (g_isi (by rfl) T.b_isinstance (g_top (g_var (pv 1))) (pe_bltn (by rfl) T.b_bool (by decide +kernel) rfl)))) (gs_one (gs_ret (g_and (g_top (g_isi (by rfl) T.b_isinstance (g_top (g_var (pv 0))) (pe_bltn (by rfl) T.b_bool (by decide +kernel) rfl))) (g_one (g_cmp (op_eqD hr.units) os_eq (g_top (g_var (pv 0))) (g_top (g_var (pv 1))) (nomark _)))))) gs_nil) (gs_cons (gs_if (gt_val (g_top (g_isi (by rfl) T.b_isinstance (g_top (g_var (pv 1))) (pe_bltn (by rfl) T.b_int (by decide +kernel) rfl)))) (gs_one (gs_ret (g_and (g_top (g_call (ok__law_is_integer T) (hr.mono (Nat.le_trans (by decide) (Nat.le_add_right 2 dn))) (by rfl) T._law_is_integer.mgx T._law_is_integer.fn.kp T._law_is_integer.bd (gae_cons (g_var (pv 0)) gae_nil) (by decide))) (g_one (g_cmp (op_eqD hr.units) os_eq (g_top (g_var (pv 0))) (g_top (g_var (pv 1))) (nomark _)))))) gs_nil) (gs_cons (gs_if (gt_val (g_top (g_isi (by rfl) T.b_isinstance (g_top (g_var (pv 1))) (pe_bltn (by rfl) T.b_str (by decide +kernel) rfl)))) (gs_one (gs_ret (g_and (g_top (g_isi (by rfl) T.b_isinstance (g_top (g_var (pv 0))) (pe_bltn (by rfl) T.b_str (by decide +kernel) rfl))) (g_one (g_cmp (op_eqD hr.units) os_eq (g_top (g_var (pv 0))) (g_top (g_var (pv 1))) (nomark _)))))) gs_nil) (gs_cons (gs_if (PW.pt (gw_or (gt_not (gt_val (g_top (g_isi (by rfl) T.b_isinstance (g_top (g_var (pv 0))) (pe_bltn (by rfl) T.b_tuple (by decide +kernel) rfl))))) (gw_or1 (gt_cmp (op_neD hr.units) os_ne (g_top (g_callB call_len cs_len (by rfl) T.b_len (by decide +kernel) (ga_cons (g_top (g_var (pv 0))) ga_nil))) (g_top (g_callB call_len cs_len (by rfl) T.b_len (by decide +kernel) (ga_cons (g_top (g_var (pv 1))) ga_nil))) (nomark _))))) (gs_one (gs_ret (g_bl pe_bl))) gs_nil) (gs_one (gs_ret (g_callB (cr_all rfl) cs_all (by rfl) T.b_all (by decide +kernel) (ga_cons (g_top (g_clean (g_comp rfl sc__law_is.nd (gi_weak (gi_range1 (by rfl) T.b_range (ga_cons (g_top (g_callB call_len cs_len (by rfl) T.b_len (by decide +kernel) (ga_cons (g_top (g_var (pv 1))) ga_nil))) ga_nil))) (pfBlk (own := [("at", 2)]) (N := N__law_is) (by kernel_rfl)) (fun _ _ _ _ _ => (gc_name (pg_name (i := 2) sc__law_is.nd rfl (by first | exact Or.inl rfl | exact Or.inr rfl)))) (fun _ _ _ _ _ => gts_nil) (fun _ _ _ _ _ => (g_call ih hr (by rfl) T._law_is.mgx T._law_is.fn.kp T._law_is.bd (gae_cons (g_ix (g_top (g_var (pv 0))) (g_top (g_var (pv 2))) (fun _ _ => rfl)) (gae_cons (g_ix (g_top (g_var (pv 1))) (g_top (g_var (pv 2))) (fun _ _ => rfl)) gae_nil)) (by decide)))))) ga_nil)))))))))
theorem ok__law_seasons (T : Tx K mg base) : FnOk P w K mg base CX0 1 (He.ga K "_law_seasons") T.fd__law_seasons ps__law_seasons (spF K 2 d__law_seasons) :=
  fn_run T._law_seasons.fn sc__law_seasons rfl rfl (by decide) fun A outer s H E hr =>
  (gs_cons (gs_set (ps_set (i := 2) sc__law_seasons.nd rfl (by first | exact Or.inl rfl | exact Or.inr rfl) (g_ix (g_top (g_tup (gae_cons (g_int pe_int) (gae_cons (g_int pe_int) (gae_cons (g_int pe_int) (gae_cons (g_int pe_int) gae_nil)))) (by decide))) (g_top (g_op op_modN os_mod (g_top (g_callTy call_int1 cs_int (by rfl) T.b_int (by decide +kernel) (ga_cons (g_top (g_ix (g_top (g_var (pv 0))) (g_top (g_int pe_int)) (fun _ _ => rfl))) ga_nil))) (g_top (g_int pe_int)))) (fun _ _ => rfl)))) (gs_cons (gs_set (ps_set (i := 3) sc__law_seasons.nd rfl (by first | exact Or.inl rfl | exact Or.inr rfl) (g_op op_modN os_mod (g_top (g_callTy call_int1 cs_int (by rfl) T.b_int (by decide +kernel) (ga_cons (g_top (g_ix (g_top (g_var (pv 0))) (g_top (g_int pe_int)) (fun _ _ => rfl))) ga_nil))) (g_top (g_int pe_int))))) (gs_cons (gs_own (ps_set (i := 4) sc__law_seasons.nd rfl (by first | exact Or.inl rfl | exact Or.inr rfl) (g_lst gae_nil (by decide)))) (gs_cons (gs_for PassesOwn.never rfl (gi_range1 (by rfl) T.b_range (ga_cons (g_top (g_op op_modN os_mod (g_top (g_callTy call_int1 cs_int (by rfl) T.b_int (by decide +kernel) (ga_cons (g_top (g_ix (g_top (g_var (pv 0))) (g_top (g_int pe_int)) (fun _ _ => rfl))) ga_nil))) (g_top (g_int pe_int)))) ga_nil)) (gg_name (pg_name (i := 5) sc__law_seasons.nd rfl (by first | exact Or.inl rfl | exact Or.inr rfl))) (gs_kl [5, 6, 7] (gs_cons (gs_set (ps_set (i := 6) sc__law_seasons.nd rfl (by first | exact Or.inl rfl | exact Or.inr rfl) (g_callTy call_int1 cs_int (by rfl) T.b_int (by decide +kernel) (ga_cons (g_top (g_ix (g_top (g_var (pv 0))) (g_top (g_op op_addA os_add (g_top (g_int pe_int)) (g_top (g_var (pv 5))))) (fun _ _ => rfl))) ga_nil)))) (gs_cons (gs_set (ps_set (i := 7) sc__law_seasons.nd rfl (by first | exact Or.inl rfl | exact Or.inr rfl) (g_op op_addA os_add (g_top (g_int pe_int)) (g_top (g_op op_modN os_mod (g_top (g_var (pv 6))) (g_top (g_var (pv 2)))))))) (gs_one (gs_append (ps_expr (pe_bm PySem.F.plainAttrs_list PySem.F.slot_list_append PySem.F.type_list_append mt_append (pv 4) (pa_cons (g_tup (gae_cons (g_var (pv 7)) (gae_cons (g_op op_modN os_mod (g_top (g_callTy call_int1 cs_int (by rfl) T.b_int (by decide +kernel) (ga_cons (g_top (g_if (PW.pt (gw_or (gt_cmp op_lt (os_cmpI _) (g_top (g_var (pv 1))) (g_top (g_int pe_int)) (nomark _)) (gw_or1 (gt_cmp (op_eqD hr.units) os_eq (g_top (g_op op_modN os_mod (g_top (g_op op_fdivN os_fdiv (g_top (g_var (pv 6))) (g_top (g_int pe_int)))) (g_top (g_int pe_int)))) (g_top (g_int pe_int)) (nomark _))))) (g_var (pv 3)) (g_op op_fdivN os_fdiv (g_top (g_var (pv 6))) (g_top (g_int pe_int))))) ga_nil))) (g_top (g_var (pv 7)))) gae_nil)) (by decide)) pa_nil))))))))) (gs_cons (gs_if (gt_cmp (op_eqD hr.units) os_eq (g_top (g_var (pv 1))) (g_top (g_int pe_int)) (nomark _)) (gs_cons (gs_set (ps_set (i := 7) sc__law_seasons.nd rfl (by first | exact Or.inl rfl | exact Or.inr rfl) (g_op op_addA os_add (g_top (g_int pe_int)) (g_top (g_op op_modN os_mod (g_top (g_callTy call_int1 cs_int (by rfl) T.b_int (by decide +kernel) (ga_cons (g_top (g_ix (g_top (g_var (pv 0))) (g_top (g_int pe_int)) (fun _ _ => rfl))) ga_nil))) (g_top (g_op op_sub os_sub (g_top (g_var (pv 2))) (g_top (g_int pe_int))))))))) (gs_cons (gs_set (ps_set (i := 8) sc__law_seasons.nd rfl (by first | exact Or.inl rfl | exact Or.inr rfl) (g_op op_modN os_mod (g_top (g_op op_fdivN os_fdiv (g_top (g_callTy call_int1 cs_int (by rfl) T.b_int (by decide +kernel) (ga_cons (g_top (g_ix (g_top (g_var (pv 0))) (g_top (g_int pe_int)) (fun _ _ => rfl))) ga_nil))) (g_top (g_int pe_int)))) (g_top (g_var (pv 7)))))) (gs_cons (gs_own (ps_set (i := 4) sc__law_seasons.nd rfl (by first | exact Or.inl rfl | exact Or.inr rfl) (g_opF op_cat of_cat (g_top (g_clean (g_lst (gae_cons (g_tup (gae_cons (g_var (pv 7)) (gae_cons (g_var (pv 8)) gae_nil)) (by decide)) gae_nil) (by decide)))) (g_top (g_clean (g_slL (g_own (pv 4)) go_none (go_some (g_top (g_int pe_int))))))))) (gs_cons (gs_append (ps_expr (pe_bm PySem.F.plainAttrs_list PySem.F.slot_list_append PySem.F.type_list_append mt_append (pv 4) (pa_cons (g_tup (gae_cons (g_var (pv 7)) (gae_cons (g_if (gt_cmp op_gt (os_cmpI _) (g_top (g_var (pv 7))) (g_top (g_int pe_int)) (nomark _)) (g_op op_modN os_mod (g_top (g_op op_addA os_add (g_top (g_op op_addA os_add (g_top (g_var (pv 8))) (g_top (g_int pe_int)))) (g_top (g_op op_modN os_mod (g_top (g_callTy call_int1 cs_int (by rfl) T.b_int (by decide +kernel) (ga_cons (g_top (g_ix (g_top (g_var (pv 0))) (g_top (g_int pe_int)) (fun _ _ => rfl))) ga_nil))) (g_top (g_op op_sub os_sub (g_top (g_var (pv 7))) (g_top (g_int pe_int)))))))) (g_top (g_var (pv 7)))) (g_op op_sub os_sub (g_top (g_int pe_int)) (g_top (g_var (pv 8))))) gae_nil)) (by decide)) pa_nil)))) (gs_one (gs_if (gt_cmp (op_eqD hr.units) os_eq (g_top (g_op op_modN os_mod (g_top (g_op op_fdivN os_fdiv (g_top (g_callTy call_int1 cs_int (by rfl) T.b_int (by decide +kernel) (ga_cons (g_top (g_ix (g_top (g_var (pv 0))) (g_top (g_int pe_int)) (fun _ _ => rfl))) ga_nil))) (g_top (g_int pe_int)))) (g_top (g_int pe_int)))) (g_top (g_int pe_int)) (nomark _)) (gs_kl [0, 1, 2, 3, 7, 8] (gs_one (gs_own (ps_set (i := 4) sc__law_seasons.nd rfl (by first | exact Or.inl rfl | exact Or.inr rfl) (g_revL (g_own (pv 4))))))) (gs_kl [0, 1, 2, 3, 7, 8] gs_nil))))))) (gs_kl [0, 1, 2, 3] gs_nil)) (gs_one (gs_ret (g_callTy call_tuple_of cs_tuple (by rfl) T.b_tuple (by decide +kernel) (ga_cons (g_own (pv 4)) ga_nil)))))))))
theorem ok__law_of (T : Tx K mg base) : FnOk P w K mg base CX0 1 (He.ga K "_law_of") T.fd__law_of ps__law_of (spF K 2 d__law_of) :=
  fn_run T._law_of.fn sc__law_of rfl rfl (by decide) fun A outer s H E hr =>
  (gs_one (gs_ret (g_cmp (op_eqD hr.units) os_eq (g_top (g_op op_modN os_mod (g_top (g_callTy call_int1 cs_int (by rfl) T.b_int (by decide +kernel) (ga_cons (g_top (g_var (pv 1))) ga_nil))) (g_top (g_ix (g_top (g_var (pv 0))) (g_top (g_int pe_int)) (fun _ _ => rfl))))) (g_top (g_ix (g_top (g_var (pv 0))) (g_top (g_int pe_int)) (fun _ _ => rfl))) (nomark _))))
theorem ok__law_divisor (T : Tx K mg base) : FnOk P w K mg base CX0 1 (He.ga K "_law_divisor") T.fd__law_divisor ps__law_divisor (spF K 2 d__law_divisor) :=
  fn_run T._law_divisor.fn sc__law_divisor rfl rfl (by decide) fun A outer s H E hr =>
  (gs_one (gs_ret (g_callB (cr_maxA rfl) cs_max (by rfl) T.b_max (by decide +kernel) (ga_cons (g_top (g_clean (g_comp rfl sc__law_divisor.nd (gi_weak (gi_range2 (by rfl) T.b_range (ga_cons (g_top (g_int pe_int)) (ga_cons (g_top (g_op op_addA os_add (g_top (g_callB (call_min2 rfl) cs_min2 (by rfl) T.b_min (by decide +kernel) (ga_cons (g_top (g_var (pv 0))) (ga_cons (g_top (g_var (pv 1))) ga_nil)))) (g_top (g_int pe_int)))) ga_nil)))) (pfBlk (own := [("d", 2)]) (N := N__law_divisor) (by kernel_rfl)) (fun _ _ _ _ _ => (gc_name (pg_name (i := 2) sc__law_divisor.nd rfl (by first | exact Or.inl rfl | exact Or.inr rfl)))) (fun _ _ _ _ _ => (gts_one (PW.pt (gw_and (gt_cmp (op_eqD hr.units) os_eq (g_top (g_op op_modN os_mod (g_top (g_callTy call_int1 cs_int (by rfl) T.b_int (by decide +kernel) (ga_cons (g_top (g_var (pv 0))) ga_nil))) (g_top (g_var (pv 2))))) (g_top (g_int pe_int)) (nomark _)) (gw_and1 (gt_cmp (op_eqD hr.units) os_eq (g_top (g_op op_modN os_mod (g_top (g_callTy call_int1 cs_int (by rfl) T.b_int (by decide +kernel) (ga_cons (g_top (g_var (pv 1))) ga_nil))) (g_top (g_var (pv 2))))) (g_top (g_int pe_int)) (nomark _))))))) (fun _ _ _ _ _ => (g_var (pv 2)))))) ga_nil))))
theorem ok__law_common (T : Tx K mg base) : FnOk P w K mg base CX0 2 (He.ga K "_law_common") T.fd__law_common ps__law_common (spF K 1 d__law_common) :=
  fn_run T._law_common.fn sc__law_common rfl rfl (by decide) fun A outer s H E hr =>
  (gs_cons (gs_set (ps_set (i := 1) sc__law_common.nd rfl (by first | exact Or.inl rfl | exact Or.inr rfl) (g_int pe_int))) (gs_cons (gs_for PassesOwn.never rfl (gi_seq (g_var (pv 0))) (gg_name (pg_name (i := 2) sc__law_common.nd rfl (by first | exact Or.inl rfl | exact Or.inr rfl))) (gs_kl [2] (gs_one (gs_set (ps_set (i := 1) sc__law_common.nd rfl (by first | exact Or.inl rfl | exact Or.inr rfl) (g_op op_fdivN os_fdiv (g_top (g_op op_mul os_mul (g_top (g_var (pv 1))) (g_top (g_ix (g_top (g_var (pv 2))) (g_top (g_int pe_int)) (fun _ _ => rfl))))) (g_top (g_call (ok__law_divisor T) (hr.mono (by decide)) (by rfl) T._law_divisor.mgx T._law_divisor.fn.kp T._law_divisor.bd (gae_cons (g_var (pv 1)) (gae_cons (g_ix (g_top (g_var (pv 2))) (g_top (g_int pe_int)) (fun _ _ => rfl)) gae_nil)) (by decide))))))))) (gs_one (gs_ret (g_var (pv 1))))))
end
end K63

set_option Elab.async false
set_option linter.all false
set_option maxRecDepth 100000
set_option maxHeartbeats 4000000

namespace K63
open PySem PySem.Spec PyProof.Rows L2 PF GxR
section
variable [Tabs] {P : Program} {w : World} {K : PySem.W.Frag} {mg : Str → Option Value} {base : Heap}
theorem ok_law (T : Tx K mg base) {f : Addr} {fd : FuncData} (F : FunD K "law" "law" (defArgs s_law) (defBody s_law) (defScope s_law) [] [] f fd) : FnOk P w K mg base CX0 7 f fd ps_law (spS K 0 d_law) :=
  fn_runS F sc_law rfl rfl (by decide) fun A outer s H E hr =>
  (gs_cons (gs_set (ps_set (i := 1) sc_law.nd rfl (by first | exact Or.inl rfl | exact Or.inr rfl) (g_call (ok__law_draws T) (hr.mono (by decide)) (by rfl) T._law_draws.mgx T._law_draws.fn.kp T._law_draws.bd (gae_cons (g_callS (ok__law_cell T) (hr.mono (by decide)) (by rfl) T._law_cell.mgx T._law_cell.fn.kp T._law_cell.bd (pv 0) (gae_cons (g_int pe_int) gae_nil) (by decide)) (gae_cons (g_int pe_int) gae_nil)) (by decide)))) (gs_cons (gs_for PassesOwn.never rfl (gi_range1 (by rfl) T.b_range (ga_cons (g_top (g_int pe_int)) ga_nil)) (gg_name (pg_name (i := 2) sc_law.nd rfl (by first | exact Or.inl rfl | exact Or.inr rfl))) (gs_kl [3, 4, 11] (gs_cons (gs_set (ps_set (i := 3) sc_law.nd rfl (by first | exact Or.inl rfl | exact Or.inr rfl) (g_call (ok__law_seasons T) (hr.mono (by decide)) (by rfl) T._law_seasons.mgx T._law_seasons.fn.kp T._law_seasons.bd (gae_cons (g_clean (g_slL (g_top (g_var (pv 1))) (go_some (g_top (g_op op_mul os_mul (g_top (g_int pe_int)) (g_top (g_var (pv 2)))))) (go_some (g_top (g_op op_addA os_add (g_top (g_op op_mul os_mul (g_top (g_int pe_int)) (g_top (g_var (pv 2))))) (g_top (g_int pe_int))))))) (gae_cons (g_op op_modN os_mod (g_top (g_var (pv 2))) (g_top (g_int pe_int))) gae_nil)) (by decide)))) (gs_cons (gs_set (ps_set (i := 4) sc_law.nd rfl (by first | exact Or.inl rfl | exact Or.inr rfl) (g_call (ok__law_common T) (hr.mono (by decide)) (by rfl) T._law_common.mgx T._law_common.fn.kp T._law_common.bd (gae_cons (g_var (pv 3)) gae_nil) (by decide)))) (gs_cons (gs_if (gt_not (gt_val (g_top (g_callB (cr_all rfl) cs_all (by rfl) T.b_all (by decide +kernel) (ga_cons (g_top (g_clean (g_comp rfl sc_law.nd (gi_weak (gi_seq (g_var (pv 3)))) (pfBlk (own := [("season", 5)]) (N := N_law) (by kernel_rfl)) (fun _ _ _ _ _ => (gc_name (pg_name (i := 5) sc_law.nd rfl (by first | exact Or.inl rfl | exact Or.inr rfl)))) (fun _ _ _ _ _ => gts_nil) (fun _ _ _ _ _ => (g_cmp (op_eqD hr.units) os_eq (g_top (g_op op_modN os_mod (g_top (g_callTy call_int1 cs_int (by rfl) T.b_int (by decide +kernel) (ga_cons (g_top (g_var (pv 4))) ga_nil))) (g_top (g_ix (g_top (g_var (pv 5))) (g_top (g_int pe_int)) (fun _ _ => rfl))))) (g_top (g_int pe_int)) (nomark _)))))) ga_nil))))) (gs_one (gs_ret (g_bl pe_bl))) gs_nil) (gs_cons (gs_own (ps_set (i := 6) sc_law.nd rfl (by first | exact Or.inl rfl | exact Or.inr rfl) (g_lst gae_nil (by decide)))) (gs_cons (gs_for PassesOwn.never rfl (gi_range1 (by rfl) T.b_range (ga_cons (g_top (g_callB call_len cs_len (by rfl) T.b_len (by decide +kernel) (ga_cons (g_top (g_var (pv 3))) ga_nil))) ga_nil)) (gg_name (pg_name (i := 7) sc_law.nd rfl (by first | exact Or.inl rfl | exact Or.inr rfl))) (gs_kl [7] (gs_one (gs_for PassesOwn.never rfl (gi_range2 (by rfl) T.b_range (ga_cons (g_top (g_op op_addA os_add (g_top (g_var (pv 7))) (g_top (g_int pe_int)))) (ga_cons (g_top (g_callB call_len cs_len (by rfl) T.b_len (by decide +kernel) (ga_cons (g_top (g_var (pv 3))) ga_nil))) ga_nil))) (gg_name (pg_name (i := 8) sc_law.nd rfl (by first | exact Or.inl rfl | exact Or.inr rfl))) (gs_cons (gs_set (ps_set (i := 9) sc_law.nd rfl (by first | exact Or.inl rfl | exact Or.inr rfl) (g_callB call_abs cs_abs (by rfl) T.b_abs (by decide +kernel) (ga_cons (g_top (g_op op_sub os_sub (g_top (g_ix (g_top (g_ix (g_top (g_var (pv 3))) (g_top (g_var (pv 7))) (fun _ _ => rfl))) (g_top (g_int pe_int)) (fun _ _ => rfl))) (g_top (g_ix (g_top (g_ix (g_top (g_var (pv 3))) (g_top (g_var (pv 8))) (fun _ _ => rfl))) (g_top (g_int pe_int)) (fun _ _ => rfl))))) ga_nil)))) (gs_one (gs_if (gt_cmp op_gt (os_cmpI _) (g_top (g_op op_modN os_mod (g_top (g_callTy call_int1 cs_int (by rfl) T.b_int (by decide +kernel) (ga_cons (g_top (g_var (pv 9))) ga_nil))) (g_top (g_call (ok__law_divisor T) (hr.mono (by decide)) (by rfl) T._law_divisor.mgx T._law_divisor.fn.kp T._law_divisor.bd (gae_cons (g_ix (g_top (g_ix (g_top (g_var (pv 3))) (g_top (g_var (pv 7))) (fun _ _ => rfl))) (g_top (g_int pe_int)) (fun _ _ => rfl)) (gae_cons (g_ix (g_top (g_ix (g_top (g_var (pv 3))) (g_top (g_var (pv 8))) (fun _ _ => rfl))) (g_top (g_int pe_int)) (fun _ _ => rfl)) gae_nil)) (by decide))))) (g_top (g_int pe_int)) (nomark _)) (gs_kl [8, 9] (gs_one (gs_append (ps_expr (pe_bm PySem.F.plainAttrs_list PySem.F.slot_list_append PySem.F.type_list_append mt_append (pv 6) (pa_cons (g_tup (gae_cons (g_var (pv 7)) (gae_cons (g_var (pv 8)) gae_nil)) (by decide)) pa_nil)))))) (gs_kl [8, 9] gs_nil)))))))) (gs_cons (gs_setLc (i := 11) rfl sc_law.nd rfl rfl (sw_true rfl rfl rfl (by decide +kernel)) (gi_weak (gi_range1 (by rfl) T.b_range (ga_cons (g_top (g_var (pv 4))) ga_nil))) (pfBlk (own := [("day", 10)]) (N := N_law) (by kernel_rfl)) (fun _ _ _ _ _ => (gc_name (pg_name (i := 10) sc_law.nd rfl (by first | exact Or.inl rfl | exact Or.inr rfl)))) (fun _ _ _ _ _ => (gts_one (gt_val (g_top (g_callB (cr_all rfl) cs_all (by rfl) T.b_all (by decide +kernel) (ga_cons (g_top (g_clean (g_comp rfl sc_law.nd (gi_weak (gi_seq (g_var (pv 3)))) (pfBlk (own := [("season", 5)]) (N := N_law) (by kernel_rfl)) (fun _ _ _ _ _ => (gc_name (pg_name (i := 5) sc_law.nd rfl (by first | exact Or.inl rfl | exact Or.inr rfl)))) (fun _ _ _ _ _ => gts_nil) (fun _ _ _ _ _ => (g_call (ok__law_of T) (hr.mono (by decide)) (by rfl) T._law_of.mgx T._law_of.fn.kp T._law_of.bd (gae_cons (g_var (pv 5)) (gae_cons (g_var (pv 10)) gae_nil)) (by decide)))))) ga_nil)))))) (fun _ _ _ _ _ => (g_var (pv 10)))).1 (gs_cons (gs_if (PW.pt (gw_or (gt_cmp (op_neD hr.units) os_ne (g_top (g_callB call_len cs_len (by rfl) T.b_len (by decide +kernel) (ga_cons (g_top (g_var (pv 11))) ga_nil))) (g_top (g_if (gt_cmp (op_eqD hr.units) os_eq (g_top (g_callB call_len cs_len (by rfl) T.b_len (by decide +kernel) (ga_cons (g_own (pv 6)) ga_nil))) (g_top (g_int pe_int)) (nomark _)) (g_int pe_int) (g_int pe_int))) (nomark _)) (gw_or (PW.pt (gw_and (gt_cmp (op_eqD hr.units) os_eq (g_top (g_var (pv 2))) (g_top (g_int pe_int)) (nomark _)) (gw_and1 (gt_cmp (op_eqD hr.units) os_eq (g_top (g_callB call_len cs_len (by rfl) T.b_len (by decide +kernel) (ga_cons (g_top (g_var (pv 11))) ga_nil))) (g_top (g_int pe_int)) (nomark _))))) (gw_or1 (PW.pt (gw_and (gt_cmp (op_eqD hr.units) os_eq (g_top (g_var (pv 2))) (g_top (g_int pe_int)) (nomark _)) (gw_and1 (gt_cmp op_gt (os_cmpI _) (g_top (g_callB call_len cs_len (by rfl) T.b_len (by decide +kernel) (ga_cons (g_top (g_var (pv 11))) ga_nil))) (g_top (g_int pe_int)) (nomark _))))))))) (gs_one (gs_ret (g_bl pe_bl))) gs_nil) (gs_cons (gs_if (gt_not (gt_val (g_top (g_call (ok__law_is T 4) (hr.mono (by decide)) (by rfl) T._law_is.mgx T._law_is.fn.kp T._law_is.bd (gae_cons (g_call (ok_told_miss T) (hr.mono (by decide)) (by rfl) T.told_miss.mgx T.told_miss.fn.kp T.told_miss.bd (gae_cons (g_var (pv 3)) gae_nil) (by decide)) (gae_cons (g_if (gt_cmp op_gt (os_cmpI _) (g_top (g_callB call_len cs_len (by rfl) T.b_len (by decide +kernel) (ga_cons (g_own (pv 6)) ga_nil))) (g_top (g_int pe_int)) (nomark _)) (g_ix (g_own (pv 6)) (g_top (g_int pe_int)) (fun _ _ => rfl)) (g_non pe_non)) gae_nil)) (by decide))))) (gs_one (gs_ret (g_bl pe_bl))) (gs_kl [6] gs_nil)) (gs_cons (gs_if (gt_not (gt_val (g_top (g_call (ok__law_is T 4) (hr.mono (by decide)) (by rfl) T._law_is.mgx T._law_is.fn.kp T._law_is.bd (gae_cons (g_call (ok_joined_season T) (hr.mono (by decide)) (by rfl) T.joined_season.mgx T.joined_season.fn.kp T.joined_season.bd (gae_cons (g_var (pv 3)) gae_nil) (by decide)) (gae_cons (g_if (gt_cmp op_gt (os_cmpI _) (g_top (g_callB call_len cs_len (by rfl) T.b_len (by decide +kernel) (ga_cons (g_top (g_var (pv 11))) ga_nil))) (g_top (g_int pe_int)) (nomark _)) (g_tup (gae_cons (g_var (pv 4)) (gae_cons (g_ix (g_top (g_var (pv 11))) (g_top (g_int pe_int)) (fun _ _ => rfl)) gae_nil)) (by decide)) (g_non pe_non)) gae_nil)) (by decide))))) (gs_one (gs_ret (g_bl pe_bl))) gs_nil) (gs_cons (gs_setLc (i := 12) rfl sc_law.nd rfl rfl (sw_true rfl rfl rfl (by decide +kernel)) (gi_weak (gi_range1 (by rfl) T.b_range (ga_cons (g_top (g_var (pv 4))) ga_nil))) (pfBlk (own := [("day", 10)]) (N := N_law) (by kernel_rfl)) (fun _ _ _ _ _ => (gc_name (pg_name (i := 10) sc_law.nd rfl (by first | exact Or.inl rfl | exact Or.inr rfl)))) (fun _ _ _ _ _ => (gts_one (gt_cmp (op_eqD hr.units) os_eq (g_top (g_callB call_len cs_len (by rfl) T.b_len (by decide +kernel) (ga_cons (g_top (g_clean (g_comp rfl sc_law.nd (gi_weak (gi_seq (g_var (pv 3)))) (pfBlk (own := [("season", 5)]) (N := N_law) (by kernel_rfl)) (fun _ _ _ _ _ => (gc_name (pg_name (i := 5) sc_law.nd rfl (by first | exact Or.inl rfl | exact Or.inr rfl)))) (fun _ _ _ _ _ => (gts_one (gt_val (g_top (g_call (ok__law_of T) (hr.mono (by decide)) (by rfl) T._law_of.mgx T._law_of.fn.kp T._law_of.bd (gae_cons (g_var (pv 5)) (gae_cons (g_var (pv 10)) gae_nil)) (by decide)))))) (fun _ _ _ _ _ => (g_var (pv 5)))))) ga_nil))) (g_top (g_int pe_int)) (nomark _)))) (fun _ _ _ _ _ => (g_var (pv 10)))).1 (gs_cons (gs_if (gt_not (gt_val (g_top (g_call (ok__law_is T 4) (hr.mono (by decide)) (by rfl) T._law_is.mgx T._law_is.fn.kp T._law_is.bd (gae_cons (g_call (ok_told_quiet_day T) (hr.mono (by decide)) (by rfl) T.told_quiet_day.mgx T.told_quiet_day.fn.kp T.told_quiet_day.bd (gae_cons (g_var (pv 3)) gae_nil) (by decide)) (gae_cons (g_if (gt_cmp op_gt (os_cmpI _) (g_top (g_callB call_len cs_len (by rfl) T.b_len (by decide +kernel) (ga_cons (g_top (g_var (pv 12))) ga_nil))) (g_top (g_int pe_int)) (nomark _)) (g_ix (g_top (g_var (pv 12))) (g_top (g_int pe_int)) (fun _ _ => rfl)) (g_non pe_non)) gae_nil)) (by decide))))) (gs_one (gs_ret (g_bl pe_bl))) (gs_kl [12] gs_nil)) (gs_cons (gs_set (ps_set (i := 13) sc_law.nd rfl (by first | exact Or.inl rfl | exact Or.inr rfl) (g_op op_modN os_mod (g_top (g_callB call_abs cs_abs (by rfl) T.b_abs (by decide +kernel) (ga_cons (g_top (g_callTy call_int1 cs_int (by rfl) T.b_int (by decide +kernel) (ga_cons (g_top (g_callS (ok__law_cell T) (hr.mono (by decide)) (by rfl) T._law_cell.mgx T._law_cell.fn.kp T._law_cell.bd (pv 0) (gae_cons (g_op op_addA os_add (g_top (g_int pe_int)) (g_top (g_var (pv 2)))) gae_nil) (by decide))) ga_nil))) ga_nil))) (g_top (g_op op_addA os_add (g_top (g_op op_pow os_pow (g_top (g_int pe_int)) (g_top (g_int pe_int)))) (g_top (g_int pe_int))))))) (gs_one (gs_for PassesOwn.never rfl (gi_seq (g_tup (gae_cons (g_int pe_int) (gae_cons (g_var (pv 13)) (gae_cons (g_op op_modN os_mod (g_top (g_callTy call_int1 cs_int (by rfl) T.b_int (by decide +kernel) (ga_cons (g_top (g_ix (g_top (g_var (pv 1))) (g_top (g_op op_addA os_add (g_top (g_int pe_int)) (g_top (g_var (pv 2))))) (fun _ _ => rfl))) ga_nil))) (g_top (g_int pe_int))) (gae_cons (g_var (pv 4)) (gae_cons (g_op op_addA os_add (g_top (g_var (pv 4))) (g_top (g_if (gt_cmp op_gt (os_cmpI _) (g_top (g_callB call_len cs_len (by rfl) T.b_len (by decide +kernel) (ga_cons (g_top (g_var (pv 11))) ga_nil))) (g_top (g_int pe_int)) (nomark _)) (g_ix (g_top (g_var (pv 11))) (g_top (g_int pe_int)) (fun _ _ => rfl)) (g_int pe_int)))) gae_nil))))) (by decide))) (gg_name (pg_name (i := 14) sc_law.nd rfl (by first | exact Or.inl rfl | exact Or.inr rfl))) (gs_cons (gs_set (ps_set (i := 15) sc_law.nd rfl (by first | exact Or.inl rfl | exact Or.inr rfl) (g_op op_addA os_add (g_top (g_var (pv 14))) (g_top (g_op op_modN os_mod (g_top (g_callTy call_int1 cs_int (by rfl) T.b_int (by decide +kernel) (ga_cons (g_top (g_op op_sub os_sub (g_top (g_if (gt_cmp op_gt (os_cmpI _) (g_top (g_callB call_len cs_len (by rfl) T.b_len (by decide +kernel) (ga_cons (g_top (g_var (pv 11))) ga_nil))) (g_top (g_int pe_int)) (nomark _)) (g_ix (g_top (g_var (pv 11))) (g_top (g_int pe_int)) (fun _ _ => rfl)) (g_int pe_int))) (g_top (g_var (pv 14))))) ga_nil))) (g_top (g_var (pv 4)))))))) (gs_cons (gs_if (PW.pt (gw_and (gt_cmp op_gt (os_cmpI _) (g_top (g_callB call_len cs_len (by rfl) T.b_len (by decide +kernel) (ga_cons (g_top (g_var (pv 11))) ga_nil))) (g_top (g_int pe_int)) (nomark _)) (gw_and1 (PW.pt (gw_or (gt_not (gt_val (g_top (g_callB (cr_all rfl) cs_all (by rfl) T.b_all (by decide +kernel) (ga_cons (g_top (g_clean (g_comp rfl sc_law.nd (gi_weak (gi_seq (g_var (pv 3)))) (pfBlk (own := [("season", 5)]) (N := N_law) (by kernel_rfl)) (fun _ _ _ _ _ => (gc_name (pg_name (i := 5) sc_law.nd rfl (by first | exact Or.inl rfl | exact Or.inr rfl)))) (fun _ _ _ _ _ => gts_nil) (fun _ _ _ _ _ => (g_call (ok__law_of T) (hr.mono (by decide)) (by rfl) T._law_of.mgx T._law_of.fn.kp T._law_of.bd (gae_cons (g_var (pv 5)) (gae_cons (g_var (pv 15)) gae_nil)) (by decide)))))) ga_nil))))) (gw_or1 (gt_cmp op_lt (os_cmpI _) (g_top (g_var (pv 15))) (g_top (g_var (pv 14))) (nomark _)))))))) (gs_one (gs_ret (g_bl pe_bl))) gs_nil) (gs_one (gs_if (gt_not (gt_val (g_top (g_call (ok__law_is T 4) (hr.mono (by decide)) (by rfl) T._law_is.mgx T._law_is.fn.kp T._law_is.bd (gae_cons (g_call (ok_next_meeting T) (hr.mono (by decide)) (by rfl) T.next_meeting.mgx T.next_meeting.fn.kp T.next_meeting.bd (gae_cons (g_var (pv 3)) (gae_cons (g_var (pv 14)) gae_nil)) (by decide)) (gae_cons (g_if (gt_cmp op_gt (os_cmpI _) (g_top (g_callB call_len cs_len (by rfl) T.b_len (by decide +kernel) (ga_cons (g_top (g_var (pv 11))) ga_nil))) (g_top (g_int pe_int)) (nomark _)) (g_var (pv 15)) (g_non pe_non)) gae_nil)) (by decide))))) (gs_one (gs_ret (g_bl pe_bl))) (gs_kl [14, 15] gs_nil))))))))))))))))))))) (gs_one (gs_ret (g_bl pe_bl)))))
end
end K63

set_option Elab.async false
set_option linter.all false
set_option maxRecDepth 100000
set_option maxHeartbeats 1000000
namespace K63
open PySem PF
local instance : Tabs := ⟨[]⟩

def RD (n rest seed : Int) (dg : Bool) (ds : List Int) : Rho := [none, some (.val (.int n)), some (.val (.int rest)), some (.val (.bool dg)), some (.val (.int seed)), some (.own (ds.map .int)), none, none]
theorem draws_ok (c : Int) (n : Nat) (hn : n ≤ 100) : ∃ ds : List Int, d__law_draws [.int c, .int n] = some (.list (ds.map .int)) ∧ ds.length = n ∧ ∀ x ∈ ds, 0 ≤ x ∧ x < 5040 := by
  have sm1 : ∀ a : Int, mulD (.int a) (.int 48271) = some (.int (a * 48271)) := fun a => mul_smallR (by decide)
  have sm2 : ∀ a : Int, mulD (.int a) (.int 69621) = some (.int (a * 69621)) := fun a => mul_smallR (by decide)
  have sm3 : ∀ a : Int, mulD (.int 40692) (.int a) = some (.int (40692 * a)) := fun a => mul_smallL (by decide)
  have loop := fun (seed : Int) (dg : Bool) (rest : Int) => forL_inv (p := namP 6) (b := ifS (andB (tru (varF 3)) (tst (bin gtI (varF 2) (cF (.int 0))))) (klS [6] (seqS (appS 5 (bin modD (app toIntD [(varF 2)]) (cF (.int 5040)))) (asgS 2 (bin fdivD (varF 2) (cF (.int 5040)))))) (klS [6, 7] (seqS (asgS 7 (bin modD (app toIntD [(bin addD (bin addD (bin mulD (varF 4) (cF (.int 48271))) (bin mulD (bin addD (varF 6) (cF (.int 1))) (cF (.int 69621)))) (cF (.int 11)))]) (cF (.int 2147483647)))) (seqS (asgS 7 (bin modD (app toIntD [(bin addD (bin mulD (varF 7) (varF 7)) (bin mulD (cF (.int 40692)) (bin addD (varF 6) (cF (.int 3)))))]) (cF (.int 2147483399)))) (appS 5 (bin modD (app toIntD [(bin fdivD (varF 7) (cF (.int 64)))]) (cF (.int 5040))))))))
    (fun k : Nat => (.int (k : Int) : D)) (fun i ρ => ∃ rest ds, ρ = RD n rest seed dg ds ∧ ds.length = i ∧ ∀ x ∈ ds, 0 ≤ x ∧ x < 5040) (List.range n) 0 (RD n rest seed dg []) ⟨rest, [], rfl, rfl, by simp⟩ ?_
  · obtain ⟨ρ', e1, r2, ds, e2, hl, hb⟩ := loop (if c < 0 then -c else c) (decide (10 ^ 18 ≤ if c < 0 then -c else c)) (if c < 0 then -c else c)
    refine ⟨ds, ?_, by simpa using hl, hb⟩
    subst e2
    refine runF_rt rfl ?_
    have hp : powD (.int 10) (.int 18) = some (.int (10 ^ 18)) := by kernel_rfl
    refine (seqS_nx rfl).trans ?_
    have hg : PF.bin geI (varF 2) (PF.bin powD (cF (.int 10)) (cF (.int 18))) [some (.val (.int c)), some (.val (.int n)), some (.val (.int (if c < 0 then -c else c))), none, none, none, none, none] = some (.bool (decide (10 ^ 18 ≤ if c < 0 then -c else c))) := bin_at (a := .int (if c < 0 then -c else c)) rfl (bin_at (a := .int 10) (b := .int 18) rfl rfl hp) (geI_i _ _)
    refine Eq.trans (seqS_nx (asgS_at hg)) ?_
    refine (seqS_nx rfl).trans ?_
    refine (seqS_nx rfl).trans ?_
    rw [k0S_eq]
    refine Eq.trans (seqS_nx (forS_at (rng1_at (n := n) rfl (by omega)) e1)) ?_
    rfl
  · intro i k ρ hk ⟨rest, ds, e, hl, hb⟩
    subst e
    have hlt : ds.length < sizeLine := by
      have := (List.getElem?_eq_some_iff.mp hk).1
      rw [List.length_range] at this
      exact Nat.lt_of_lt_of_le (by omega) (show 101 ≤ sizeLine by decide)
    have hds : (ds.map PyData.int).length < sizeLine := by rw [List.length_map]; exact hlt
    cases hc : (dg && decide (0 < rest)) with
    | true =>
      refine ⟨RD n (rest.fdiv 5040) seed dg (ds ++ [rest.fmod 5040]), ?_, _, _, rfl, by simp; omega, fun x hx => ?_⟩
      · obtain ⟨h1, h2⟩ := Bool.and_eq_true_iff.mp hc
        subst h1
        have hcond : (andB (tru (varF 3)) (tst (PF.bin gtI (varF 2) (cF (.int 0))))) ((RD n rest seed true ds).set 6 (some (.val (.int (k : Int))))) = some true := by
          show some (decide (0 < rest)) = some true
          rw [h2]
        refine (ifS_t hcond).trans ?_
        refine (klS_nx ((seqS_nx (appS_at (ds := ds.map .int) (d := .int (rest.fmod 5040)) rfl (bin_at (app1_at (d := .int rest) rfl (toInt_i _)) rfl (modD_i _ (by decide))) hds)).trans (asgS_at (bin_at (a := .int rest) rfl rfl (fdivD_i _ (by decide) (by decide)))))).trans ?_
        unfold RD
        rw [List.map_append]
        rfl
      · rcases List.mem_append.mp hx with h | h
        · exact hb x h
        · rw [List.mem_singleton.mp h]; exact ⟨fmod_lo (by decide), fmod_hi (by decide)⟩
    | false =>
      have key : ∀ m : Int, smallI (m.fmod 2147483647) = true := fun m => small_of (fmod_lo (by decide)) (Int.lt_trans (fmod_hi (by decide)) (by decide))
      obtain ⟨M1, hM1⟩ : ∃ m, m = (seed * 48271 + ((k : Int) + 1) * 69621 + 11).fmod 2147483647 := ⟨_, rfl⟩
      obtain ⟨M2, hM2⟩ : ∃ m, m = (M1 * M1 + 40692 * ((k : Int) + 3)).fmod 2147483399 := ⟨_, rfl⟩
      refine ⟨RD n rest seed dg (ds ++ [(M2.fdiv 64).fmod 5040]), ?_, rest, ds ++ [(M2.fdiv 64).fmod 5040], rfl, ?_, fun x hx => ?_⟩
      · have hm : mulD (.int M1) (.int M1) = some (.int (M1 * M1)) := mul_smallR (by rw [hM1]; exact key _)
        have hcond : (andB (tru (varF 3)) (tst (PF.bin gtI (varF 2) (cF (.int 0))))) ((RD n rest seed dg ds).set 6 (some (.val (.int (k : Int))))) = some false := by
          cases dg with
          | false => rfl
          | true =>
            show some (decide (0 < rest)) = some false
            rw [← hc]; rfl
        refine (ifS_f hcond).trans ?_
        refine (klS_nx ((seqS_nx (asgS_at (d := .int M1) ?_)).trans ((seqS_nx (asgS_at (d := .int M2) ?_)).trans (appS_at (ds := ds.map .int) (d := .int ((M2.fdiv 64).fmod 5040)) rfl ?_ hds)))).trans ?_
        · rw [hM1]
          exact bin_at (app1_at (bin_at (bin_at (bin_at (a := .int seed) rfl rfl (sm1 _)) (bin_at (bin_at (a := .int (k : Int)) rfl rfl (addD_i _ _)) rfl (sm2 _)) (addD_i _ _)) rfl (addD_i _ _)) (toInt_i _)) rfl (modD_i _ (by decide))
        · rw [hM2]
          exact bin_at (app1_at (bin_at (bin_at (a := .int M1) (b := .int M1) rfl rfl hm) (bin_at rfl (bin_at (a := .int (k : Int)) rfl rfl (addD_i _ _)) (sm3 _)) (addD_i _ _)) (toInt_i _)) rfl (modD_i _ (by decide))
        · exact bin_at (app1_at (bin_at (a := .int M2) rfl rfl (fdivD_i _ (by decide) (by decide))) (toInt_i _)) rfl (modD_i _ (by decide))
        · unfold RD
          rw [List.map_append]
          rfl
      · simp; omega
      · rcases List.mem_append.mp hx with h | h
        · exact hb x h
        · rw [List.mem_singleton.mp h]; exact ⟨fmod_lo (by decide), fmod_hi (by decide)⟩

abbrev S2 := Nat × Nat
def tS (p : S2) : D := .tuple [.int (p.1 : Int), .int (p.2 : Int)]
def tSs (ss : List S2) : D := .tuple (ss.map tS)
theorem cell_ok (ns : List Int) (k : Nat) : ∃ c : Int, d__law_cell ns [.int k] = some (.int c) := by
  have hc : (tst (PF.bin ltI (varF 1) (lenS 0))) (envS 1 1 ns [.int k]) = some (decide ((k : Int) < (ns.length : Int))) := rfl
  by_cases h : k < ns.length
  · refine ⟨ns[k], runS_rt rfl (seqS_rt ((ifS_t (hc.trans (by rw [decide_eq_true (by omega)]))).trans (retS_at ?_)))⟩
    show (L2.atI ns (k : Int)).map _ = _
    rw [atI_nat, List.getElem?_eq_getElem h]
    rfl
  · refine ⟨_, runS_rt rfl ((seqS_nx ((ifS_f (hc.trans (by rw [decide_eq_false (by omega)]))).trans rfl)).trans (retS_at (bin_at (bin_at rfl (b := .int (k : Int)) rfl (mul_smallL (by decide))) rfl (addD_i _ _))))⟩
theorem is_none (n : Nat) : d__law_is (n + 1) [.none, .none] = some (.bool true) := by rfl
theorem is_int (n : Nat) (i : Int) : d__law_is (n + 1) [.int i, .int i] = some (.bool true) := by
  refine runF_rt rfl ?_
  refine (seqS_nx rfl).trans ?_
  refine (seqS_nx rfl).trans ?_
  refine seqS_rt ((ifS_t rfl).trans (retS_at ?_))
  show (eqD (.int i) (.int i)) = _
  rw [eqD_i, decide_eq_true rfl]
theorem is_pair (n : Nat) (i j : Int) : d__law_is (n + 2) [.tuple [.int i, .int j], .tuple [.int i, .int j]] = some (.bool true) := by
  refine runF_rt rfl ?_
  refine (seqS_nx rfl).trans ?_
  refine (seqS_nx rfl).trans ?_
  refine (seqS_nx rfl).trans ?_
  refine (seqS_nx rfl).trans ?_
  have hne : tst (PF.bin neD (app lenD [varF 0]) (app lenD [varF 1])) (env0 2 3 [.tuple [.int i, .int j], .tuple [.int i, .int j]]) = some false := tst_at (bin_at (a := .int 2) (b := .int 2) rfl rfl (neD_i 2 2))
  refine (seqS_nx ((ifS_f (orB_at (a := false) rfl hne)).trans rfl)).trans (retS_at (app1_at (compF_at (rng1_at (n := 2) rfl (by decide)) (compL_map (fun k : Nat => (.int (k : Int) : D)) (fun _ => true) (fun _ => .bool true) _ fun k hk => ⟨_, rfl, rfl, fun _ => ?_⟩)) rfl))
  have hk2 : k = 0 ∨ k = 1 := by have := List.mem_range.mp hk; omega
  rcases hk2 with rfl | rfl
  · exact app2_at (d := .int i) (d' := .int i) rfl rfl (is_int n i)
  · exact app2_at (d := .int j) (d' := .int j) rfl rfl (is_int n j)
/-! ### the program's functions -/
def missB (p q : S2) : Bool := !decide (((p.2 : Int) - (q.2 : Int)).fmod ((Nat.gcd p.1 q.1 : Nat) : Int) = 0)
theorem gcd_ne {p q : S2} (h : p.1 ≠ 0) : ((Nat.gcd p.1 q.1 : Nat) : Int) ≠ 0 := by
  have := Nat.gcd_pos_of_pos_left (m := p.1) q.1 (by omega)
  omega
theorem do_miss_ok {p q : S2} (h : p.1 ≠ 0) : d_do_miss [tS p, tS q] = some (.bool (missB p q)) :=
  runF_rt rfl (retS_at (bin_at (bin_at (bin_at (a := .int (p.2 : Int)) (b := .int (q.2 : Int)) rfl rfl (subD_i _ _)) (app2_at (d := .int (p.1 : Int)) (d' := .int (q.1 : Int)) rfl rfl rfl) (modD_i _ (gcd_ne h))) rfl (neD_i _ _)))
/-- the pairs of places, in order -/
def inner (n i : Nat) : List (Nat × Nat) := (List.range (n - (i + 1))).map fun k => (i, i + 1 + k)
def pairs (n : Nat) : List (Nat × Nat) := (List.range n).flatMap (inner n)
def missAt (ss : List S2) (ij : Nat × Nat) : Bool := match ss[ij.1]?, ss[ij.2]? with
  | some p, some q => missB p q
  | _, _ => false
def pairD (ij : Nat × Nat) : D := .tuple [.int (ij.1 : Int), .int (ij.2 : Int)]
theorem findSome_flat {α β γ : Type} (f : α → List β) (q : β → Option γ) : ∀ l : List α, (l.flatMap f).findSome? q = l.findSome? fun x => (f x).findSome? q
  | [] => rfl
  | x :: l => by
    rw [List.flatMap_cons, List.findSome?_append, List.findSome?_cons, findSome_flat f q l]
    cases (f x).findSome? q <;> rfl
theorem told_miss_ok {ss : List S2} (h : ∀ p ∈ ss, p.1 ≠ 0) (hn : ss.length ≤ 10) : d_told_miss [tSs ss] = some (match (pairs ss.length).find? (missAt ss) with | some ij => pairD ij | none => .none) := by
  have hlen : ∀ ρ : Rho, ρ[0]? = some (some (.val (tSs ss))) → app lenD [varF 0] ρ = some (.int (ss.length : Int)) := fun ρ e => by
    refine app1_at (d := tSs ss) ?_ ?_
    · unfold varF; rw [e]
    · show some (PyData.int ((ss.map tS).length : Int)) = _
      rw [List.length_map]
  have inn : ∀ i, i < ss.length → forS (rng2F (PF.bin addD (varF 1) (cF (.int 1))) (app lenD [(varF 0)])) (namP 2) (ifS (tst (app d_do_miss [(PF.bin ixD (varF 0) (varF 1)), (PF.bin ixD (varF 0) (varF 2))])) (retS (tupF [(varF 1), (varF 2)])) (klS [2] nxS)) [some (.val (tSs ss)), some (.val (.int (i : Int))), none] =
      some (match (inner ss.length i).findSome? (fun ij => if missAt ss ij = true then some (pairD ij) else none) with | some d => .rt d | none => .nx [some (.val (tSs ss)), some (.val (.int (i : Int))), none]) := fun i hi => by
    refine forS_at (rng2_at (a := i + 1) (b := ss.length) rfl (hlen _ rfl) (by omega) (by omega)) ?_
    rw [forL_find (fun k : Nat => (.int ((i + 1 + k : Nat) : Int) : D)) _ (fun k => if missAt ss (i, i + 1 + k) = true then some (pairD (i, i + 1 + k)) else none)]
    · unfold inner
      rw [List.findSome?_map]
      rfl
    · intro k hk
      have hk := List.mem_range.mp hk
      have e1 : ss[i]? = some ss[i] := List.getElem?_eq_getElem hi
      have e2 : ss[i + 1 + k]? = some ss[i + 1 + k] := List.getElem?_eq_getElem (by omega)
      have hm : missAt ss (i, i + 1 + k) = missB ss[i] ss[i + 1 + k] := by unfold missAt; rw [e1, e2]
      have hc : tst (app d_do_miss [(PF.bin ixD (varF 0) (varF 1)), (PF.bin ixD (varF 0) (varF 2))]) [some (.val (tSs ss)), some (.val (.int (i : Int))), some (.val (.int ((i + 1 + k : Nat) : Int)))] = some (missB ss[i] ss[i + 1 + k]) := by
        refine tst_at (app2_at (d := tS ss[i]) (d' := tS ss[i + 1 + k]) (bin_at rfl rfl ?_) (bin_at rfl rfl ?_) (do_miss_ok (h _ (List.getElem_mem _))))
        · rw [show tSs ss = .tuple (ss.map tS) from rfl, ix_tup, List.getElem?_map, e1]; rfl
        · rw [show tSs ss = .tuple (ss.map tS) from rfl, ix_tup, List.getElem?_map, e2]; rfl
      rw [hm]
      cases hb : missB ss[i] ss[i + 1 + k] with
      | true =>
        rw [hb] at hc
        exact (ifS_t hc).trans rfl
      | false =>
        rw [hb] at hc
        exact (ifS_f hc).trans rfl
  have out := forL_find (p := namP 1) (b := klS [1] (forS (rng2F (PF.bin addD (varF 1) (cF (.int 1))) (app lenD [(varF 0)])) (namP 2) (ifS (tst (app d_do_miss [(PF.bin ixD (varF 0) (varF 1)), (PF.bin ixD (varF 0) (varF 2))])) (retS (tupF [(varF 1), (varF 2)])) (klS [2] nxS)))) (fun i : Nat => (.int (i : Int) : D)) [some (.val (tSs ss)), none, none]
    (fun i => (inner ss.length i).findSome? (fun ij => if missAt ss ij = true then some (pairD ij) else none)) (List.range ss.length) fun i hi => by
      have e := inn i (List.mem_range.mp hi)
      rw [namP_bind]
      cases hq : (inner ss.length i).findSome? (fun ij => if missAt ss ij = true then some (pairD ij) else none) with
      | none =>
        rw [hq] at e
        exact klS_nx e
      | some d =>
        rw [hq] at e
        exact klS_rt e
  rw [← findSome_flat] at out
  have fi : ∀ l : List (Nat × Nat), l.findSome? (fun ij => if missAt ss ij = true then some (pairD ij) else none) = (l.find? (missAt ss)).map pairD := fun l => by
    induction l with
    | nil => rfl
    | cons x l ih =>
      rw [List.findSome?_cons, List.find?_cons]
      cases hx : missAt ss x with
      | true => simp
      | false => simpa using ih
  have out2 := forS_at (rng1_at (n := ss.length) (f := app lenD [varF 0]) (hlen [some (.val (tSs ss)), none, none] rfl) (by omega)) out
  rw [show (List.range ss.length).flatMap (inner ss.length) = pairs ss.length from rfl, fi] at out2
  refine runF_rt rfl ?_
  cases hp : (pairs ss.length).find? (missAt ss) with
  | none =>
    rw [hp] at out2
    exact (seqS_nx out2).trans rfl
  | some ij =>
    rw [hp] at out2
    exact seqS_rt out2
/-! common_step -/
def Ok (p : S2) : Prop := 1 ≤ p.1 ∧ p.1 ≤ 10 ∧ p.2 < p.1
def lcmAll (ss : List S2) : Nat := ss.foldl (fun w p => Nat.lcm w p.1) 1
theorem lcm_step {w s : Nat} (h : 0 < s) (hs : s ≤ 10) {f g : Rho → Option D} {ρ : Rho} (e1 : f ρ = some (.int (w : Int))) (e2 : g ρ = some (.int (s : Int))) :
    PF.bin fdivD (PF.bin mulD f g) (app gcdD [f, g]) ρ = some (.int ((Nat.lcm w s : Nat) : Int)) := by
  have hg : 0 < Nat.gcd w s := Nat.gcd_pos_of_pos_right w h
  have hl : Nat.gcd w s ≤ 10 := Nat.le_trans (Nat.gcd_le_right w h) hs
  have sm : smallI (s : Int) = true := small_of (by omega) (by omega)
  have e : ((w : Int) * (s : Int)).fdiv ((Nat.gcd w s : Nat) : Int) = ((Nat.lcm w s : Nat) : Int) := by
    rw [Int.fdiv_eq_ediv_of_nonneg _ (Int.natCast_nonneg _)]
    unfold Nat.lcm
    rw [Int.natCast_ediv, Int.natCast_mul]
  have g1 : gcdD [.int (w : Int), .int (s : Int)] = some (.int ((Nat.gcd w s : Nat) : Int)) := rfl
  exact bin_at (bin_at e1 e2 (mul_smallR sm)) (app2_at e1 e2 g1) ((fdivD_i _ (by omega) (by omega)).trans (by rw [e]))
theorem common_ok {ss : List S2} (h : ∀ p ∈ ss, Ok p) : d_common_step [tSs ss] = some (.int (lcmAll ss : Nat)) := by
  have loop := (forL_fold (p := tupP 2 (consP (namP 2) (consP (namP 3) nilP))) (b := klS [2, 3] (asgS 1 (PF.bin fdivD (PF.bin mulD (varF 1) (varF 2)) (app gcdD [(varF 1), (varF 2)])))) tS
    (fun w : Nat => ([some (.val (tSs ss)), some (.val (.int (w : Int))), none, none] : Rho)) (fun w p => Nat.lcm w p.1) (fun _ => True) ss 1 trivial fun p hp w _ => ⟨by
      obtain ⟨h1, h2, h3⟩ := h p hp
      have e : tupP 2 (consP (namP 2) (consP (namP 3) nilP)) (tS p) [some (.val (tSs ss)), some (.val (.int (w : Int))), none, none] = some [some (.val (tSs ss)), some (.val (.int (w : Int))), some (.val (.int (p.1 : Int))), some (.val (.int (p.2 : Int)))] := rfl
      rw [e, Option.bind_some]
      exact klS_nx (asgS_at (lcm_step (by omega) h2 rfl rfl)), trivial⟩).1
  refine runF_rt rfl ?_
  refine (seqS_nx rfl).trans ?_
  exact (seqS_nx (forS_at (ds := ss.map tS) rfl loop)).trans rfl
/-! joined_season -/
def seek (w s f : Nat) : Nat → Nat → Option Nat
  | 0, _ => none
  | n + 1, d => if d % s = f then some d else seek w s f n (d + w)
theorem seek_whl {w s f : Nat} (h : 0 < s) (x : D) : ∀ (n d d' : Nat), seek w s f n d = some d' →
    whlL (tst (PF.bin neD (PF.bin modD (varF 2) (varF 3)) (varF 4))) (augS 2 addI (varF 1)) n [some (.val x), some (.val (.int (w : Int))), some (.val (.int (d : Int))), some (.val (.int (s : Int))), some (.val (.int (f : Int)))] =
      some (.nx [some (.val x), some (.val (.int (w : Int))), some (.val (.int (d' : Int))), some (.val (.int (s : Int))), some (.val (.int (f : Int)))])
  | 0, _, _, e => by cases e
  | n + 1, d, d', e => by
    unfold seek at e
    have hc : tst (PF.bin neD (PF.bin modD (varF 2) (varF 3)) (varF 4)) [some (.val x), some (.val (.int (w : Int))), some (.val (.int (d : Int))), some (.val (.int (s : Int))), some (.val (.int (f : Int)))] = some (!decide (((d % s : Nat) : Int) = (f : Int))) := by
      refine tst_at (bin_at (a := .int ((d % s : Nat) : Int)) (b := .int (f : Int)) (bin_at (a := .int (d : Int)) (b := .int (s : Int)) rfl rfl ?_) rfl (neD_i _ _))
      rw [modD_i _ (by omega), fmod_nat]
    by_cases hd : d % s = f
    · rw [if_pos hd] at e
      cases e
      refine whl_stop (hc.trans ?_)
      rw [hd]; simp
    · rw [if_neg hd] at e
      refine (whl_go (hc.trans ?_) rfl).trans ?_
      · have : ¬ (((d % s : Nat) : Int) = (f : Int)) := by omega
        rw [decide_eq_false this]; rfl
      · have := seek_whl h x n (d + w) d' e
        rw [show ((d + w : Nat) : Int) = (d : Int) + (w : Int) by omega] at this
        exact this
/-! the least common multiple of the steps -/
def lcmF (w : Nat) (l : List S2) : Nat := l.foldl (fun w p => Nat.lcm w p.1) w
theorem lcmF_dvd {y : Nat} : ∀ {l : List S2} {w : Nat}, w ∣ y → (∀ p ∈ l, p.1 ∣ y) → lcmF w l ∣ y
  | [], _, h, _ => h
  | p :: l, w, h, k => lcmF_dvd (l := l) (Nat.lcm_dvd h (k p List.mem_cons_self)) fun q hq => k q (List.mem_cons_of_mem _ hq)
theorem dvd_lcmF0 : ∀ {l : List S2} {w : Nat}, w ∣ lcmF w l
  | [], w => Nat.dvd_refl w
  | p :: l, w => Nat.dvd_trans (Nat.dvd_lcm_left w p.1) (dvd_lcmF0 (l := l))
theorem dvd_lcmF : ∀ {l : List S2} {w : Nat} {p : S2}, p ∈ l → p.1 ∣ lcmF w l
  | q :: l, w, p, h => by
    rcases List.mem_cons.mp h with rfl | h
    · exact Nat.dvd_trans (Nat.dvd_lcm_right w p.1) (dvd_lcmF0 (l := l))
    · exact dvd_lcmF (l := l) h
theorem lcmF_pos : ∀ {l : List S2} {w : Nat}, 0 < w → (∀ p ∈ l, Ok p) → 0 < lcmF w l
  | [], _, h, _ => h
  | p :: l, w, h, k => lcmF_pos (l := l) (Nat.lcm_pos h (by have := (k p List.mem_cons_self).1; omega)) fun q hq => k q (List.mem_cons_of_mem _ hq)
theorem lcmF_le {l : List S2} (h : ∀ p ∈ l, Ok p) : lcmF 1 l ≤ 2520 := Nat.le_of_dvd (by decide) (lcmF_dvd (Nat.one_dvd _) fun p hp => by
  obtain ⟨h1, h2, _⟩ := h p hp
  obtain ⟨s, f⟩ := p
  show s ∣ 2520
  have : s = 1 ∨ s = 2 ∨ s = 3 ∨ s = 4 ∨ s = 5 ∨ s = 6 ∨ s = 7 ∨ s = 8 ∨ s = 9 ∨ s = 10 := by
    simp only at h1 h2
    omega
  rcases this with rfl | rfl | rfl | rfl | rfl | rfl | rfl | rfl | rfl | rfl <;> decide)
theorem lcmF_idvd {y : Int} {l : List S2} (h : ∀ p ∈ l, (p.1 : Int) ∣ y) : ((lcmF 1 l : Nat) : Int) ∣ y := by
  have := lcmF_dvd (l := l) (w := 1) (y := y.natAbs) (Nat.one_dvd _) fun p hp => Int.ofNat_dvd_left.mp (h p hp)
  exact Int.ofNat_dvd_left.mpr this
/-- x is a day of p -/
def On (x : Nat) (p : S2) : Prop := x % p.1 = p.2
theorem on_dvd {x : Nat} {p : S2} (h : On x p) : (p.1 : Int) ∣ (x : Int) - (p.2 : Int) := by
  unfold On at h
  rw [← h]
  have := Nat.div_add_mod x p.1
  refine ⟨((x / p.1 : Nat) : Int), ?_⟩
  have h2 : ((p.1 * (x / p.1) + x % p.1 : Nat) : Int) = (x : Int) := by rw [this]
  rw [Int.natCast_add, Int.natCast_mul] at h2
  omega
theorem on_of_dvd {x : Nat} {p : S2} (hp : Ok p) (h : (p.1 : Int) ∣ (x : Int) - (p.2 : Int)) : On x p := by
  have h1 := Int.emod_emod_of_dvd (x : Int) (Int.dvd_refl (p.1 : Int))
  have h2 : ((x : Int) - (p.2 : Int)) % (p.1 : Int) = 0 := Int.emod_eq_zero_of_dvd h
  have h3 : (x : Int) % (p.1 : Int) = (p.2 : Int) % (p.1 : Int) := Int.emod_eq_emod_iff_emod_sub_eq_zero.mpr h2
  have h4 : (p.2 : Int) % (p.1 : Int) = (p.2 : Int) := Int.emod_eq_of_lt (by omega) (by have := hp.2.2; omega)
  rw [h4] at h3
  unfold On
  omega
theorem seek_some {w s f : Nat} : ∀ (n d t : Nat), t < n → (d + t * w) % s = f → ∃ d' t', seek w s f n d = some d' ∧ d' = d + t' * w ∧ d' % s = f
  | 0, _, _, h, _ => by omega
  | n + 1, d, t, h, e => by
    unfold seek
    by_cases hd : d % s = f
    · exact ⟨d, 0, by rw [if_pos hd], by omega, hd⟩
    · rw [if_neg hd]
      cases t with
      | zero => rw [Nat.zero_mul, Nat.add_zero] at e; exact absurd e hd
      | succ t =>
        have e' : (d + w + t * w) % s = f := by rw [← e, Nat.succ_mul]; congr 1; omega
        obtain ⟨d', t', h1, h2, h3⟩ := seek_some n (d + w) t (by omega) e'
        exact ⟨d', t' + 1, h1, by rw [h2, Nat.succ_mul]; omega, h3⟩
/-- a day of p is found from d on by steps of w, if there is one among d + k w -/
theorem seek_ex {w d x : Nat} {p : S2} (hp : Ok p) (hx : On x p) (hw : (w : Int) ∣ (x : Int) - (d : Int)) : ∃ d' t', seek w p.1 p.2 64 d = some d' ∧ d' = d + t' * w ∧ On d' p := by
  obtain ⟨k, hk⟩ := hw
  have hs : (0 : Int) < (p.1 : Int) := by have := hp.1; omega
  have k0 : 0 ≤ k % (p.1 : Int) := Int.emod_nonneg _ (by omega)
  have k1 : k % (p.1 : Int) < (p.1 : Int) := Int.emod_lt_of_pos _ hs
  have ek := Int.emod_add_mul_ediv k (p.1 : Int)
  refine seek_some 64 d (k % (p.1 : Int)).toNat (by have := hp.2.1; omega) ?_
  have hd : (p.1 : Int) ∣ ((d + (k % (p.1 : Int)).toNat * w : Nat) : Int) - (p.2 : Int) := by
    have h1 := on_dvd hx
    have e1 : ((d + (k % (p.1 : Int)).toNat * w : Nat) : Int) = (x : Int) - (p.1 : Int) * ((k / (p.1 : Int)) * (w : Int)) := by
      rw [Int.natCast_add, Int.natCast_mul, Int.toNat_of_nonneg k0]
      have e2 : (x : Int) = (d : Int) + (w : Int) * k := by omega
      rw [e2]
      have e3 : (w : Int) * k = k % (p.1 : Int) * (w : Int) + (p.1 : Int) * ((k / (p.1 : Int)) * (w : Int)) := by
        conv => lhs; rw [← ek]
        rw [Int.mul_add, Int.mul_comm (w : Int) (k % (p.1 : Int)), Int.mul_comm (w : Int), Int.mul_assoc]
      omega
    rw [e1]
    obtain ⟨c, hc⟩ := h1
    refine ⟨c - (k / (p.1 : Int)) * (w : Int), ?_⟩
    rw [Int.mul_sub]
    omega
  exact on_of_dvd hp hd
theorem lcmF_take {ss : List S2} {i : Nat} {p : S2} (h : ss[i]? = some p) : lcmF 1 (ss.take (i + 1)) = Nat.lcm (lcmF 1 (ss.take i)) p.1 := by
  unfold lcmF
  rw [List.take_add_one, h, List.foldl_append]
  rfl
theorem notN_at {f : Rho → Option D} {ρ : Rho} {d : D} (e : f ρ = some d) : tst (PF.bin notND f (cF .none)) ρ = some (!isNone d) := tst_at (bin_at e rfl rfl)
theorem joined_none {ss : List S2} (h : ∀ p ∈ ss, Ok p) (hn : ss.length ≤ 10) {ij : Nat × Nat} (hm : (pairs ss.length).find? (missAt ss) = some ij) : d_joined_season [tSs ss] = some .none := by
  have ht := told_miss_ok (ss := ss) (fun p hp => by have := (h p hp).1; omega) hn
  rw [hm] at ht
  refine runF_rt rfl (seqS_rt ((ifS_t (notN_at (d := pairD ij) (app1_at rfl ht))).trans rfl))
theorem joined_ok {ss : List S2} (h : ∀ p ∈ ss, Ok p) (hn : ss.length ≤ 10) (hm : (pairs ss.length).find? (missAt ss) = none) {x : Nat} (hx : ∀ p ∈ ss, On x p) :
    ∃ d : Nat, d_joined_season [tSs ss] = some (.tuple [.int (lcmF 1 ss : Nat), .int ((d % lcmF 1 ss : Nat) : Int)]) ∧ ∀ p ∈ ss, On d p := by
  have ht := told_miss_ok (ss := ss) (fun p hp => by have := (h p hp).1; omega) hn
  rw [hm] at ht
  obtain ⟨ρ', e1, d, e2, hd⟩ := forL_inv (p := tupP 2 (consP (namP 3) (consP (namP 4) nilP))) (b := klS [3, 4] (seqS (whlL (tst (PF.bin neD (PF.bin modD (varF 2) (varF 3)) (varF 4))) (augS 2 addI (varF 1)) 64) (asgS 1 (PF.bin fdivD (PF.bin mulD (varF 1) (varF 3)) (app gcdD [(varF 1), (varF 3)]))))) tS
    (fun i ρ => ∃ d : Nat, ρ = [some (.val (tSs ss)), some (.val (.int (lcmF 1 (ss.take i) : Nat))), some (.val (.int (d : Int))), none, none] ∧ ∀ p ∈ ss.take i, On d p) ss 0 [some (.val (tSs ss)), some (.val (.int ((1 : Nat) : Int))), some (.val (.int ((0 : Nat) : Int))), none, none] ⟨0, rfl, by simp⟩ (by
      rintro i p ρ hp ⟨d, rfl, hd⟩
      rw [Nat.zero_add] at hd ⊢
      have hmem := List.mem_of_getElem? hp
      obtain ⟨d', t', s1, s2, s3⟩ := seek_ex (w := lcmF 1 (ss.take i)) (d := d) (h p hmem) (hx p hmem) (lcmF_idvd fun q hq => by
        have h1 := on_dvd (hx q (List.mem_of_mem_take hq))
        have h2 := on_dvd (hd q hq)
        obtain ⟨a, ha⟩ := h1
        obtain ⟨b, hb⟩ := h2
        exact ⟨a - b, by rw [Int.mul_sub]; omega⟩)
      have hp1 := (h p hmem).1
      refine ⟨_, ?_, d', rfl, fun q hq => ?_⟩
      · have e : tupP 2 (consP (namP 3) (consP (namP 4) nilP)) (tS p) [some (.val (tSs ss)), some (.val (.int (lcmF 1 (ss.take i) : Nat))), some (.val (.int (d : Int))), none, none] = some [some (.val (tSs ss)), some (.val (.int (lcmF 1 (ss.take i) : Nat))), some (.val (.int (d : Int))), some (.val (.int (p.1 : Int))), some (.val (.int (p.2 : Int)))] := rfl
        rw [e, Option.bind_some]
        refine (klS_nx ((seqS_nx (seek_whl (by omega) _ 64 d d' s1)).trans (asgS_at (lcm_step (by omega) (h p hmem).2.1 rfl rfl)))).trans ?_
        rw [← lcmF_take hp]
        rfl
      · rw [List.take_add_one, hp] at hq
        rcases List.mem_append.mp hq with hq | hq
        · have h2 := on_dvd (hd q hq)
          have h3 := dvd_lcmF (w := 1) hq
          refine on_of_dvd (h q (List.mem_of_mem_take hq)) ?_
          obtain ⟨b, hb⟩ := h2
          obtain ⟨c, hc⟩ := h3
          refine ⟨b + (t' : Int) * (c : Int), ?_⟩
          rw [s2, Int.natCast_add, Int.natCast_mul, Int.mul_add, ← hb]
          have : ((lcmF 1 (ss.take i) : Nat) : Int) = (q.1 : Int) * (c : Int) := by rw [hc]; exact Int.natCast_mul _ _
          rw [this, Int.mul_left_comm]
          omega
        · have : q = p := by simpa using hq
          rw [this]
          exact s3)
  rw [Nat.zero_add, List.take_length] at e2 hd
  subst e2
  have hw := lcmF_pos (w := 1) (by decide) h
  refine ⟨d, runF_rt rfl ?_, hd⟩
  refine (seqS_nx ((ifS_f (notN_at (d := .none) (app1_at rfl ht))).trans rfl)).trans ?_
  refine (seqS_nx rfl).trans ?_
  refine (seqS_nx (forS_at (ds := ss.map tS) rfl e1)).trans (retS_at ?_)
  have em : PF.bin modD (varF 2) (varF 1) [some (.val (tSs ss)), some (.val (.int (lcmF 1 ss : Nat))), some (.val (.int (d : Int))), none, none] = some (.int ((d % lcmF 1 ss : Nat) : Int)) := bin_at rfl rfl ((modD_i _ (by omega)).trans (by rw [fmod_nat]))
  unfold tupF argsF
  rw [show varF 1 [some (.val (tSs ss)), some (.val (.int (lcmF 1 ss : Nat))), some (.val (.int (d : Int))), none, none] = some (.int (lcmF 1 ss : Nat)) from rfl, Option.bind_some]
  unfold argsF
  rw [em]
  rfl
/-! ### days that meet -/
theorem gcd_lcm_dvd {a b s y : Nat} (ha : 0 < a) (hb : 0 < b) (h1 : Nat.gcd a s ∣ y) (h2 : Nat.gcd b s ∣ y) : Nat.gcd (Nat.lcm a b) s ∣ y := by
  generalize hG : Nat.gcd (Nat.lcm a b) s = G
  have gS : G ∣ s := hG ▸ Nat.gcd_dvd_right _ _
  have gL : G ∣ Nat.lcm a b := hG ▸ Nat.gcd_dvd_left _ _
  have g0 : 0 < G := Nat.pos_of_dvd_of_pos gL (Nat.lcm_pos ha hb)
  have A0 : 0 < Nat.gcd a G := Nat.gcd_pos_of_pos_left _ ha
  have Ay : Nat.gcd a G ∣ y := Nat.dvd_trans (Nat.dvd_gcd (Nat.gcd_dvd_left _ _) (Nat.dvd_trans (Nat.gcd_dvd_right _ _) gS)) h1
  have By : Nat.gcd b G ∣ y := Nat.dvd_trans (Nat.dvd_gcd (Nat.gcd_dvd_left _ _) (Nat.dvd_trans (Nat.gcd_dvd_right _ _) gS)) h2
  refine Nat.dvd_trans ?_ (Nat.lcm_dvd Ay By)
  obtain ⟨a', g', cop, ea, eG⟩ := Nat.exists_coprime a G
  have hab : G * Nat.gcd a b ∣ a * b := by
    rw [← Nat.gcd_mul_lcm a b, Nat.mul_comm]
    exact Nat.mul_dvd_mul_left _ gL
  have k1 : g' * Nat.gcd a b ∣ a' * b := by
    refine Nat.dvd_of_mul_dvd_mul_left A0 ?_
    have e1 : Nat.gcd a G * (g' * Nat.gcd a b) = G * Nat.gcd a b := by
      rw [← Nat.mul_assoc, Nat.mul_comm (Nat.gcd a G) g', ← eG]
    have e2 : Nat.gcd a G * (a' * b) = a * b := by
      rw [← Nat.mul_assoc, Nat.mul_comm (Nat.gcd a G) a', ← ea]
    rw [e1, e2]
    exact hab
  generalize hh : Nat.gcd G (Nat.gcd a b) = h
  have hG' : h ∣ G := hh ▸ Nat.gcd_dvd_left _ _
  have hd : h ∣ Nat.gcd a b := hh ▸ Nat.gcd_dvd_right _ _
  have h0 : 0 < h := Nat.pos_of_dvd_of_pos hG' g0
  obtain ⟨d2, ed⟩ := hd
  obtain ⟨b2, eb⟩ : h ∣ b := Nat.dvd_trans ⟨d2, ed⟩ (Nat.gcd_dvd_right a b)
  have k2 : g' * d2 ∣ a' * b2 := by
    refine Nat.dvd_of_mul_dvd_mul_left h0 ?_
    have e1 : h * (g' * d2) = g' * Nat.gcd a b := by rw [ed, Nat.mul_left_comm]
    have e2 : h * (a' * b2) = a' * b := by rw [eb, Nat.mul_left_comm]
    rw [e1, e2]
    exact k1
  have k3 : g' ∣ b2 := (Nat.Coprime.symm cop).dvd_of_dvd_mul_left (Nat.dvd_trans (Nat.dvd_mul_right g' d2) k2)
  have k4 : g' * h ∣ b := by rw [eb, Nat.mul_comm]; exact Nat.mul_dvd_mul_left h k3
  have hA : h ∣ Nat.gcd a G := Nat.dvd_gcd (Nat.dvd_trans ⟨d2, ed⟩ (Nat.gcd_dvd_left a b)) hG'
  have k5 : g' * h ∣ G := by rw [eG]; exact Nat.mul_dvd_mul_left g' hA
  have k6 : g' * h ∣ Nat.gcd b G := Nat.dvd_gcd k4 k5
  have k7 : Nat.gcd (Nat.gcd a G) (Nat.gcd b G) ∣ h := by
    rw [← hh]
    exact Nat.dvd_gcd (Nat.dvd_trans (Nat.gcd_dvd_left _ _) (Nat.gcd_dvd_right _ _)) (Nat.dvd_gcd (Nat.dvd_trans (Nat.gcd_dvd_left _ _) (Nat.gcd_dvd_left _ _)) (Nat.dvd_trans (Nat.gcd_dvd_right _ _) (Nat.gcd_dvd_left _ _)))
  refine Nat.dvd_of_mul_dvd_mul_left h0 ?_
  have e3 : h * G = Nat.gcd a G * (g' * h) := by
    rw [← Nat.mul_assoc, Nat.mul_comm (Nat.gcd a G) g', ← eG, Nat.mul_comm]
  rw [e3]
  refine Nat.dvd_trans (Nat.mul_dvd_mul_left _ k6) ?_
  rw [← Nat.gcd_mul_lcm (Nat.gcd a G) (Nat.gcd b G)]
  exact Nat.mul_dvd_mul_right k7 _
theorem gcd_lcmF {s y : Nat} : ∀ {l : List S2} {w : Nat}, 0 < w → (∀ p ∈ l, Ok p) → Nat.gcd w s ∣ y → (∀ p ∈ l, Nat.gcd p.1 s ∣ y) → Nat.gcd (lcmF w l) s ∣ y
  | [], _, _, _, h, _ => h
  | p :: l, w, w0, k, h, g => by
    have p0 : 0 < p.1 := (k p List.mem_cons_self).1
    exact gcd_lcmF (l := l) (Nat.lcm_pos w0 p0) (fun q hq => k q (List.mem_cons_of_mem _ hq)) (gcd_lcm_dvd w0 p0 h (g p List.mem_cons_self)) fun q hq => g q (List.mem_cons_of_mem _ hq)
theorem miss_iff {p q : S2} : missB p q = false ↔ ((Nat.gcd p.1 q.1 : Nat) : Int) ∣ (p.2 : Int) - (q.2 : Int) := by
  unfold missB
  rw [Int.fmod_eq_emod_of_nonneg _ (Int.natCast_nonneg _)]
  constructor
  · intro h
    have : ((p.2 : Int) - (q.2 : Int)) % ((Nat.gcd p.1 q.1 : Nat) : Int) = 0 := by simpa using h
    exact Int.dvd_of_emod_eq_zero this
  · intro h
    have := Int.emod_eq_zero_of_dvd h
    simpa using this
theorem on_miss {x : Nat} {p q : S2} (h : On x p) (k : On x q) : missB p q = false := by
  rw [miss_iff]
  have h1 := Int.dvd_trans (Int.natCast_dvd_natCast.mpr (Nat.gcd_dvd_left p.1 q.1)) (on_dvd h)
  have h2 := Int.dvd_trans (Int.natCast_dvd_natCast.mpr (Nat.gcd_dvd_right p.1 q.1)) (on_dvd k)
  obtain ⟨a, ha⟩ := h1
  obtain ⟨b, hb⟩ := h2
  exact ⟨b - a, by rw [Int.mul_sub]; omega⟩
theorem small_all : ((List.range 11).all fun s => (List.range s).all fun l => (List.range s).all fun r => (List.range s).all fun f => decide ((f + s - r) % Nat.gcd l s ≠ 0) || (List.range s).any fun t => decide ((r + t * l) % s = f)) = true := by decide +kernel
theorem small_ex {s l r f : Nat} (hs : s ≤ 10) (hl : l < s) (hr : r < s) (hf : f < s) (h : (f + s - r) % Nat.gcd l s = 0) : ∃ t, (r + t * l) % s = f := by
  have h1 := List.all_eq_true.mp small_all s (List.mem_range.mpr (by omega))
  have h2 := List.all_eq_true.mp h1 l (List.mem_range.mpr hl)
  have h3 := List.all_eq_true.mp h2 r (List.mem_range.mpr hr)
  have h4 := List.all_eq_true.mp h3 f (List.mem_range.mpr hf)
  rcases Bool.or_eq_true_iff.mp h4 with h5 | h5
  · exact absurd h (of_decide_eq_true h5)
  · obtain ⟨t, _, ht⟩ := List.any_eq_true.mp h5
    exact ⟨t, of_decide_eq_true ht⟩
theorem meet_step {w x : Nat} {p : S2} (hp : Ok p) (h : Nat.gcd w p.1 ∣ ((x : Int) - (p.2 : Int)).natAbs) : ∃ t, On (x + t * w) p := by
  obtain ⟨h1, h2, h3⟩ := hp
  have hr : x % p.1 < p.1 := Nat.mod_lt _ h1
  have hg : Nat.gcd (w % p.1) p.1 = Nat.gcd w p.1 := by rw [← Nat.gcd_rec p.1 w, Nat.gcd_comm]
  obtain ⟨t, ht⟩ := small_ex (s := p.1) (l := w % p.1) (r := x % p.1) (f := p.2) h2 (Nat.mod_lt _ h1) hr h3 (by
    rw [hg]
    apply Nat.mod_eq_zero_of_dvd
    have e1 : ((Nat.gcd w p.1 : Nat) : Int) ∣ (x : Int) - (p.2 : Int) := Int.ofNat_dvd_left.mpr h
    have e2 : ((Nat.gcd w p.1 : Nat) : Int) ∣ (p.1 : Int) := Int.natCast_dvd_natCast.mpr (Nat.gcd_dvd_right w p.1)
    obtain ⟨a, ha⟩ := e1
    obtain ⟨b, hb⟩ := e2
    have e3 : (x : Int) = (p.1 : Int) * ((x / p.1 : Nat) : Int) + ((x % p.1 : Nat) : Int) := by
      rw [← Int.natCast_mul, ← Int.natCast_add, Nat.div_add_mod]
    have e4 : ((p.2 + p.1 - x % p.1 : Nat) : Int) = (p.2 : Int) + (p.1 : Int) - ((x % p.1 : Nat) : Int) := by omega
    refine Int.natCast_dvd_natCast.mp ?_
    rw [e4]
    refine ⟨b + b * ((x / p.1 : Nat) : Int) - a, ?_⟩
    rw [Int.mul_sub, Int.mul_add, ← Int.mul_assoc, ← hb]
    omega)
  refine ⟨t, ?_⟩
  show (x + t * w) % p.1 = p.2
  rw [← ht, Nat.add_mod, Nat.mul_mod]
  conv => rhs; rw [Nat.add_mod, Nat.mul_mod]
  simp
theorem mem_pairs {n i j : Nat} : (i, j) ∈ pairs n ↔ i < j ∧ j < n := by
  unfold pairs inner
  rw [List.mem_flatMap]
  constructor
  · rintro ⟨a, h1, h2⟩
    obtain ⟨k, h3, h4⟩ := List.mem_map.mp h2
    have := List.mem_range.mp h1
    have := List.mem_range.mp h3
    cases h4
    omega
  · rintro ⟨h1, h2⟩
    exact ⟨i, List.mem_range.mpr (by omega), List.mem_map.mpr ⟨j - (i + 1), List.mem_range.mpr (by omega), by congr 1; omega⟩⟩
theorem no_miss {ss : List S2} (h : (pairs ss.length).find? (missAt ss) = none) {i j : Nat} {p q : S2} (hi : ss[i]? = some p) (hj : ss[j]? = some q) (hij : i < j) : missB p q = false := by
  have hl := (List.getElem?_eq_some_iff.mp hj).1
  have := List.find?_eq_none.mp h (i, j) (mem_pairs.mpr ⟨hij, hl⟩)
  unfold missAt at this
  simp only [hi, hj] at this
  simpa using this
theorem meet_all {ss : List S2} (h : ∀ p ∈ ss, Ok p) (hm : (pairs ss.length).find? (missAt ss) = none) : ∃ x : Nat, ∀ p ∈ ss, On x p := by
  have key : ∀ i, ∃ x : Nat, ∀ p ∈ ss.take i, On x p := by
    intro i
    induction i with
    | zero => exact ⟨0, by simp⟩
    | succ i ih =>
      obtain ⟨x, hx⟩ := ih
      cases hp : ss[i]? with
      | none =>
        refine ⟨x, fun q hq => hx q ?_⟩
        rw [List.take_add_one, hp] at hq
        simpa using hq
      | some p =>
        have okp := h p (List.mem_of_getElem? hp)
        obtain ⟨t, ht⟩ := meet_step (w := lcmF 1 (ss.take i)) (x := x) okp (by
          refine gcd_lcmF (by decide) (fun q hq => h q (List.mem_of_mem_take hq)) (by rw [Nat.gcd_one_left]; exact Nat.one_dvd _) fun q hq => ?_
          obtain ⟨j, hj, ej⟩ := List.getElem_of_mem hq
          have hji : j < i := by rw [List.length_take] at hj; omega
          have hq2 : ss[j]? = some q := by
            rw [← ej, List.getElem_take]
            exact List.getElem?_eq_getElem _
          have m1 := miss_iff.mp (no_miss hm hq2 hp hji)
          have m2 := Int.dvd_trans (Int.natCast_dvd_natCast.mpr (Nat.gcd_dvd_left q.1 p.1)) (on_dvd (hx q hq))
          refine Int.ofNat_dvd_left.mp ?_
          obtain ⟨a, ha⟩ := m1
          obtain ⟨b, hb⟩ := m2
          exact ⟨a + b, by rw [Int.mul_add]; omega⟩)
        refine ⟨x + t * lcmF 1 (ss.take i), fun q hq => ?_⟩
        rw [List.take_add_one, hp] at hq
        rcases List.mem_append.mp hq with hq | hq
        · obtain ⟨c, hc⟩ := dvd_lcmF (w := 1) hq
          have := hx q hq
          unfold On at this ⊢
          rw [hc, Nat.mul_left_comm, Nat.add_mul_mod_self_left]
          exact this
        · have : q = p := by simpa using hq
          rw [this]; exact ht
  obtain ⟨x, hx⟩ := key ss.length
  rw [List.take_length] at hx
  exact ⟨x, hx⟩
/-! ### the rest of the program -/
theorem isN_at {f : Rho → Option D} {ρ : Rho} {d : D} (e : f ρ = some d) : tst (PF.bin isND f (cF .none)) ρ = some (isNone d) := tst_at (bin_at e rfl rfl)
theorem next_none {x : D} {n : Int} (h : d_joined_season [x] = some .none) : d_next_meeting [x, .int n] = some .none :=
  runF_rt rfl ((seqS_nx (asgS_at (app1_at (d := x) rfl h))).trans (seqS_rt ((ifS_t (isN_at (d := .none) rfl)).trans rfl)))
theorem next_some {x : D} {n w m : Int} (hw : w ≠ 0) (h : d_joined_season [x] = some (.tuple [.int w, .int m])) : d_next_meeting [x, .int n] = some (.int (n + (m - n).fmod w)) :=
  runF_rt rfl ((seqS_nx (asgS_at (app1_at (d := x) rfl h))).trans ((seqS_nx ((ifS_f (isN_at (d := .tuple [.int w, .int m]) rfl)).trans (klS_nx rfl))).trans (retS_at
    (bin_at (a := .int n) rfl (bin_at (bin_at (a := .int m) (b := .int n) (bin_at (a := .tuple [.int w, .int m]) (b := .int 1) rfl rfl rfl) rfl (subD_i _ _)) (bin_at (a := .tuple [.int w, .int m]) (b := .int 0) (r := some (.int w)) rfl rfl rfl) (modD_i _ hw)) (addD_i _ _)))))
def onB (x : Nat) (p : S2) : Bool := decide (x % p.1 = p.2)
theorem quiet_ok {ss : List S2} (h : ∀ p ∈ ss, Ok p) : d_told_quiet_day [tSs ss] = some (match (List.range (lcmF 1 ss)).find? (fun x => !ss.any (onB x)) with | some x => .int (x : Int) | none => .none) := by
  have hc := common_ok h
  have out := forL_find (p := namP 1) (b := ifS (notB (tst (gxF true [2, 3] (srcF (varF 0)) (tupP 2 (consP (namP 2) (consP (namP 3) nilP))) yesB (PF.bin eqD (PF.bin modD (varF 1) (varF 2)) (varF 3))))) (retS (varF 1)) (klS [1] nxS)) (fun x : Nat => (.int (x : Int) : D)) [some (.val (tSs ss)), none, none, none]
    (fun x => if (!ss.any (onB x)) = true then some (.int (x : Int)) else none) (List.range (lcmF 1 ss)) fun x _ => by
      rw [namP_bind]
      have hg : gxF true [2, 3] (srcF (varF 0)) (tupP 2 (consP (namP 2) (consP (namP 3) nilP))) yesB (PF.bin eqD (PF.bin modD (varF 1) (varF 2)) (varF 3)) [some (.val (tSs ss)), some (.val (.int (x : Int))), none, none] = some (.bool (ss.any (onB x))) := by
        refine gxF_at (ds := ss.map tS) rfl (gxL_any tS (onB x) ss fun p hp => ?_)
        refine ⟨[some (.val (tSs ss)), some (.val (.int (x : Int))), some (.val (.int (p.1 : Int))), some (.val (.int (p.2 : Int)))], rfl, rfl, ?_⟩
        have hp1 := (h p hp).1
        refine bin_at (bin_at (a := .int (x : Int)) (b := .int (p.1 : Int)) rfl rfl ((modD_i _ (by omega)).trans (by rw [fmod_nat]))) rfl ((eqD_i _ _).trans ?_)
        unfold onB
        by_cases e : x % p.1 = p.2
        · rw [decide_eq_true e, decide_eq_true (by omega)]
        · rw [decide_eq_false e, decide_eq_false (by omega)]
      cases ha : ss.any (onB x) with
      | true =>
        rw [ha] at hg
        exact (ifS_f (notB_at (b := true) (tst_at hg))).trans rfl
      | false =>
        rw [ha] at hg
        exact (ifS_t (notB_at (b := false) (tst_at hg))).trans rfl
  have fi : ∀ l : List Nat, l.findSome? (fun x => if (!ss.any (onB x)) = true then some (PyData.int (x : Int)) else none) = (l.find? (fun x => !ss.any (onB x))).map fun x => .int (x : Int) := fun l => by
    induction l with
    | nil => rfl
    | cons x l ih =>
      rw [List.findSome?_cons, List.find?_cons]
      cases hx : !ss.any (onB x) with
      | true => simp
      | false => simpa using ih
  have hw := lcmF_le h
  have out2 := forS_at (rng1_at (n := lcmF 1 ss) (f := app d_common_step [varF 0]) (ρ := [some (.val (tSs ss)), none, none, none]) (app1_at (d := tSs ss) rfl hc) (by omega)) out
  rw [fi] at out2
  refine runF_rt rfl ?_
  cases hp : (List.range (lcmF 1 ss)).find? (fun x => !ss.any (onB x)) with
  | none =>
    rw [hp] at out2
    exact (seqS_nx out2).trans rfl
  | some x =>
    rw [hp] at out2
    exact seqS_rt out2
/-! ### the law's own functions -/
theorem of_ok {x : Nat} {p : S2} (hp : 1 ≤ p.1) : d__law_of [tS p, .int (x : Int)] = some (.bool (onB x p)) := by
  refine runF_rt rfl (retS_at (bin_at (bin_at (app1_at (d := .int (x : Int)) rfl (toInt_i _)) (bin_at (a := tS p) (b := .int 0) (r := some (.int (p.1 : Int))) rfl rfl rfl) ((modD_i _ (by omega)).trans (by rw [fmod_nat]))) (bin_at (a := tS p) (b := .int 1) (r := some (.int (p.2 : Int))) rfl rfl rfl) ((eqD_i _ _).trans ?_)))
  unfold onB
  by_cases e : x % p.1 = p.2
  · rw [decide_eq_true e, decide_eq_true (by omega)]
  · rw [decide_eq_false e, decide_eq_false (by omega)]
theorem maxI_of {l : List Int} {m : Int} (h : m ∈ l) (k : ∀ y ∈ l, y ≤ m) : maxI l = some m := by
  cases l with
  | nil => cases h
  | cons n ns =>
    obtain ⟨h1, h2, h3⟩ := foldl_max_le ns n
    show some (ns.foldl max n) = some m
    congr 1
    have a1 : ns.foldl max n ≤ m := by
      rcases h3 with e | e
      · rw [e]; exact k n List.mem_cons_self
      · exact k _ (List.mem_cons_of_mem _ e)
    have a2 : m ≤ ns.foldl max n := by
      rcases List.mem_cons.mp h with e | e
      · rw [e]; exact h1
      · exact h2 m e
    omega
theorem div_ok {a b : Nat} (ha : 0 < a) (hb : 0 < b) (la : a ≤ 99999) : d__law_divisor [.int (a : Int), .int (b : Int)] = some (.int ((Nat.gcd a b : Nat) : Int)) := by
  have hmin : app min2D [(varF 0), (varF 1)] [some (.val (.int (a : Int))), some (.val (.int (b : Int))), none] = some (.int ((min a b : Nat) : Int)) := by
    refine app2_at (d := .int (a : Int)) (d' := .int (b : Int)) rfl rfl ?_
    show some (PyData.int (if (b : Int) < (a : Int) then (b : Int) else (a : Int))) = _
    congr 2
    by_cases h : b < a
    · rw [if_pos (by omega)]; omega
    · rw [if_neg (by omega)]; omega
  have hsrc := rng2_at (a := 1) (b := min a b + 1) (f := cF (.int 1)) (g := PF.bin addD (app min2D [(varF 0), (varF 1)]) (cF (.int 1))) (ρ := [some (.val (.int (a : Int))), some (.val (.int (b : Int))), none]) rfl (bin_at hmin rfl rfl) (by omega) (by omega)
  rw [Nat.add_sub_cancel] at hsrc
  have hl := compL_map (p := namP 2) (t := andB (tst (PF.bin eqD (PF.bin modD (app toIntD [(varF 0)]) (varF 2)) (cF (.int 0)))) (tst (PF.bin eqD (PF.bin modD (app toIntD [(varF 1)]) (varF 2)) (cF (.int 0))))) (f := varF 2) (ρ := kill [2] [some (.val (.int (a : Int))), some (.val (.int (b : Int))), none])
    (fun k : Nat => (.int ((1 + k : Nat) : Int) : D)) (fun k => decide (a % (1 + k) = 0) && decide (b % (1 + k) = 0)) (fun k => .int ((1 + k : Nat) : Int)) (List.range (min a b)) fun k _ => by
      refine ⟨[some (.val (.int (a : Int))), some (.val (.int (b : Int))), some (.val (.int ((1 + k : Nat) : Int)))], rfl, ?_, fun _ => rfl⟩
      have one : ∀ (i c : Nat), varF i [some (.val (.int (a : Int))), some (.val (.int (b : Int))), some (.val (.int ((1 + k : Nat) : Int)))] = some (.int (c : Int)) → tst (PF.bin eqD (PF.bin modD (app toIntD [(varF i)]) (varF 2)) (cF (.int 0))) [some (.val (.int (a : Int))), some (.val (.int (b : Int))), some (.val (.int ((1 + k : Nat) : Int)))] = some (decide (c % (1 + k) = 0)) := fun i c hi => by
        refine tst_at (bin_at (bin_at (app1_at hi (toInt_i _)) rfl ((modD_i _ (by omega)).trans (by rw [fmod_nat]))) rfl ((eqD_i _ _).trans ?_))
        by_cases e : c % (1 + k) = 0
        · rw [decide_eq_true e, decide_eq_true (by omega)]
        · rw [decide_eq_false e, decide_eq_false (by omega)]
      exact andB_at (one 0 a rfl) (one 1 b rfl)
  refine runF_rt rfl (retS_at (app1_at (compF_at hsrc hl) ?_))
  show ((intsD _).bind fun ns => (maxI ns).map PyData.int) = _
  rw [intsD_of, Option.bind_some, maxI_of (m := ((Nat.gcd a b : Nat) : Int)) (List.mem_map.mpr ⟨Nat.gcd a b - 1, ?_, ?_⟩) ?_]
  · rfl
  · have g0 := Nat.gcd_pos_of_pos_left b ha
    have g1 := Nat.gcd_le_left b ha
    have g2 := Nat.gcd_le_right a hb
    have e : 1 + (Nat.gcd a b - 1) = Nat.gcd a b := by omega
    refine List.mem_filter.mpr ⟨List.mem_range.mpr (by omega), ?_⟩
    rw [e, Bool.and_eq_true, decide_eq_true_eq, decide_eq_true_eq]
    exact ⟨Nat.mod_eq_zero_of_dvd (Nat.gcd_dvd_left a b), Nat.mod_eq_zero_of_dvd (Nat.gcd_dvd_right a b)⟩
  · have g0 := Nat.gcd_pos_of_pos_left b ha
    congr 1
    omega
  · intro y hy
    obtain ⟨k, hk, rfl⟩ := List.mem_map.mp hy
    obtain ⟨_, h2⟩ := List.mem_filter.mp hk
    rw [Bool.and_eq_true, decide_eq_true_eq, decide_eq_true_eq] at h2
    have := Nat.le_of_dvd (Nat.gcd_pos_of_pos_left b ha) (Nat.dvd_gcd (Nat.dvd_of_mod_eq_zero h2.1) (Nat.dvd_of_mod_eq_zero h2.2))
    omega
theorem lcm_fdiv (w s : Nat) : ((w : Int) * (s : Int)).fdiv ((Nat.gcd w s : Nat) : Int) = ((Nat.lcm w s : Nat) : Int) := by
  rw [Int.fdiv_eq_ediv_of_nonneg _ (Int.natCast_nonneg _)]
  unfold Nat.lcm
  rw [Int.natCast_ediv, Int.natCast_mul]
theorem dvd2520 {p : S2} (h : Ok p) : p.1 ∣ 2520 := by
  have := lcmF_dvd (l := [p]) (w := 1) (y := 2520) (Nat.one_dvd _) fun q hq => by
    have e : q = p := by simpa using hq
    subst e
    obtain ⟨h1, h2, _⟩ := h
    obtain ⟨s, f⟩ := q
    show s ∣ 2520
    have : s = 1 ∨ s = 2 ∨ s = 3 ∨ s = 4 ∨ s = 5 ∨ s = 6 ∨ s = 7 ∨ s = 8 ∨ s = 9 ∨ s = 10 := by
      simp only at h1 h2
      omega
    rcases this with rfl | rfl | rfl | rfl | rfl | rfl | rfl | rfl | rfl | rfl <;> decide
  exact Nat.dvd_trans (dvd_lcmF (w := 1) (l := [p]) (by simp)) this
theorem lcommon_ok {ss : List S2} (h : ∀ p ∈ ss, Ok p) : d__law_common [tSs ss] = some (nD (lcmF 1 ss)) := by
  have loop := (forL_fold (p := namP 2) (b := klS [2] (asgS 1 (PF.bin fdivD (PF.bin mulD (varF 1) (PF.bin ixD (varF 2) (cF (.int 0)))) (app d__law_divisor [(varF 1), (PF.bin ixD (varF 2) (cF (.int 0)))])))) tS
    (fun w : Nat => ([some (.val (tSs ss)), some (.val (nD w)), none] : Rho)) (fun w p => Nat.lcm w p.1) (fun w => 0 < w ∧ w ∣ 2520) ss 1 ⟨by decide, Nat.one_dvd _⟩ fun p hp w hw => ⟨by
      obtain ⟨h1, h2, h3⟩ := h p hp
      obtain ⟨w0, w1⟩ := hw
      have wl := Nat.le_of_dvd (by decide) w1
      have gl := Nat.gcd_le_right w (show 0 < p.1 by omega)
      have g0 := Nat.gcd_pos_of_pos_left p.1 w0
      have sm : smallI (p.1 : Int) = true := small_of (by omega) (by omega)
      have hix : PF.bin ixD (varF 2) (cF (.int 0)) [some (.val (tSs ss)), some (.val (nD w)), some (.val (tS p))] = some (nD p.1) := bin_at (a := tS p) (b := .int 0) rfl rfl rfl
      rw [namP_bind]
      refine klS_nx (asgS_at (d := nD (Nat.lcm w p.1)) (bin_at (bin_at (a := nD w) rfl hix (mul_smallR sm)) (app2_at (d := nD w) rfl hix (div_ok w0 h1 (by omega))) ?_))
      exact (fdivD_i _ (by omega) (by omega)).trans (by rw [lcm_fdiv]), Nat.lcm_pos hw.1 (by have := (h p hp).1; omega), Nat.lcm_dvd hw.2 (dvd2520 (h p hp))⟩).1
  refine runF_rt rfl ?_
  refine (seqS_nx rfl).trans ?_
  exact (seqS_nx (forS_at (ds := ss.map tS) rfl loop)).trans rfl
/-! ### the seasons that are drawn -/
abbrev RS (ns : List Nat) (way wd hd : Nat) (ss : List S2) : Rho := [some (.val (.list (ns.map nD))), some (.val (nD way)), some (.val (nD wd)), some (.val (nD hd)), some (.own (ss.map tS)), none, none, none, none]
theorem seas_loop {ns : List Nat} (hl : ns.length = 8) {way wd hd : Nat} (h0 : 0 < wd) (h10 : wd ≤ 10) (n : Nat) (hn : n ≤ 3) : ∃ ss : List S2, forL (namP 5) (klS [5, 6, 7] (seqS (asgS 6 (app toIntD [(PF.bin ixD (varF 0) (PF.bin addD (cF (.int 3)) (varF 5)))])) (seqS (asgS 7 (PF.bin addD (cF (.int 1)) (PF.bin modD (varF 6) (varF 2)))) (appS 4 (tupF [(varF 7), (PF.bin modD (app toIntD [(ifF (orB (tst (PF.bin ltI (varF 1) (cF (.int 2)))) (tst (PF.bin eqD (PF.bin modD (PF.bin fdivD (varF 6) (cF (.int 10))) (cF (.int 2))) (cF (.int 0))))) (varF 3) (PF.bin fdivD (varF 6) (cF (.int 20))))]) (varF 7))]))))) ((List.range n).map fun k : Nat => .int (k : Int)) (RS ns way wd hd []) = some (.nx (RS ns way wd hd ss)) ∧
    ss.length = n ∧ (∀ p ∈ ss, Ok p) ∧ (way < 2 → ∀ p ∈ ss, On hd p) := by
  obtain ⟨ρ', e1, ss, rfl, h1, h2, h3⟩ := forL_inv (p := namP 5) (b := klS [5, 6, 7] (seqS (asgS 6 (app toIntD [(PF.bin ixD (varF 0) (PF.bin addD (cF (.int 3)) (varF 5)))])) (seqS (asgS 7 (PF.bin addD (cF (.int 1)) (PF.bin modD (varF 6) (varF 2)))) (appS 4 (tupF [(varF 7), (PF.bin modD (app toIntD [(ifF (orB (tst (PF.bin ltI (varF 1) (cF (.int 2)))) (tst (PF.bin eqD (PF.bin modD (PF.bin fdivD (varF 6) (cF (.int 10))) (cF (.int 2))) (cF (.int 0))))) (varF 3) (PF.bin fdivD (varF 6) (cF (.int 20))))]) (varF 7))])))))
    (fun k : Nat => (.int (k : Int) : D)) (fun i ρ => ∃ ss : List S2, ρ = RS ns way wd hd ss ∧ ss.length = i ∧ (∀ p ∈ ss, Ok p) ∧ (way < 2 → ∀ p ∈ ss, On hd p)) (List.range n) 0 (RS ns way wd hd []) ⟨[], rfl, rfl, by simp, by simp⟩ (by
      rintro i k ρ hk ⟨ss, rfl, hs, hok, hon⟩
      have hi : i < n ∧ k = i := by
        obtain ⟨a, b⟩ := List.getElem?_eq_some_iff.mp hk
        rw [List.getElem_range] at b
        rw [List.length_range] at a
        exact ⟨a, b.symm⟩
      obtain ⟨hi, rfl⟩ := hi
      rw [Nat.zero_add] at hs ⊢
      have hv : 3 + k < ns.length := by omega
      obtain ⟨v, ev⟩ : ∃ v, v = ns[3 + k] := ⟨_, rfl⟩
      obtain ⟨c, ec⟩ : ∃ c, c = (decide (way < 2) || decide (v / 10 % 2 = 0)) := ⟨_, rfl⟩
      obtain ⟨z, ez⟩ : ∃ z, z = if c = true then hd else v / 20 := ⟨_, rfl⟩
      have st : 0 < 1 + v % wd := by omega
      have hvw := Nat.mod_lt v h0
      refine ⟨RS ns way wd hd (ss ++ [(1 + v % wd, z % (1 + v % wd))]), ?_, _, rfl, by simp [hs], fun p hp => ?_, fun hw p hp => ?_⟩
      · rw [namP_bind]
        refine (klS_nx ((seqS_nx (asgS_at (d := nD v) ?_)).trans ((seqS_nx (asgS_at (d := nD (1 + v % wd)) ?_)).trans (appS_at (ds := ss.map tS) (d := tS (1 + v % wd, z % (1 + v % wd))) rfl ?_ ?_)))).trans ?_
        · rw [ev]
          exact app1_at (bin_at (a := .list (ns.map nD)) (b := nD (3 + k)) rfl (bin_at (a := .int 3) (b := nD k) rfl rfl rfl) (ixN_l hv)) rfl
        · exact bin_at (a := nD 1) rfl (bin_at (a := nD v) (b := nD wd) rfl rfl (modN_i v h0)) (addN_i _ _)
        · refine tup2_at (a := nD (1 + v % wd)) rfl (bin_at (a := nD z) (b := nD (1 + v % wd)) (app1_at (d := nD z) (ifF_at (b := c) ?_ (fun e => ?_) fun e => ?_) (toInt_i _)) rfl (modN_i z st))
          · rw [ec]
            exact orB_at (tst_at (bin_at (a := nD way) (b := nD 2) rfl rfl (ltN_i way 2))) (tst_at (bin_at (bin_at (bin_at (a := nD v) (b := nD 10) rfl rfl (fdivN_i v (by decide) (by decide))) (b := nD 2) rfl (modN_i _ (by decide))) (b := nD 0) rfl (eqN_i _ 0)))
          · rw [ez, if_pos e]; rfl
          · rw [ez, if_neg (by rw [e]; decide)]
            exact bin_at (a := nD v) (b := nD 20) rfl rfl (fdivN_i v (by decide) (by decide))
        · rw [List.length_map]
          exact Nat.lt_of_lt_of_le (by omega) (show 10 ≤ sizeLine by decide)
        · unfold RS
          rw [List.map_append]
          rfl
      · rcases List.mem_append.mp hp with hp | hp
        · exact hok p hp
        · rw [List.mem_singleton.mp hp]
          exact ⟨by show 1 ≤ 1 + v % wd; omega, by show 1 + v % wd ≤ 10; omega, Nat.mod_lt _ st⟩
      · rcases List.mem_append.mp hp with hp | hp
        · exact hon hw p hp
        · rw [List.mem_singleton.mp hp]
          show hd % (1 + v % wd) = z % (1 + v % wd)
          rw [ez, ec, decide_eq_true hw, Bool.true_or, if_pos rfl])
  rw [Nat.zero_add, List.length_range] at h1
  exact ⟨ss, e1, h1, h2, h3⟩
theorem cut2 (ds : List D) : cutD ds none (some 2) = ds.take 2 := by
  unfold cutD
  have e1 : HT.sIx ds.length 0 none = 0 := rfl
  have e2 : HT.sIx ds.length ds.length (some 2) = min 2 ds.length := rfl
  rw [e1, e2, List.drop_zero, Nat.sub_zero]
  by_cases h : 2 ≤ ds.length
  · rw [Nat.min_eq_left h]
  · rw [Nat.min_eq_right (by omega), List.take_of_length_le (Nat.le_refl _), List.take_of_length_le (by omega)]
theorem wide_at (a : Nat) : ∃ wd : Nat, ixD (.tuple [.int 4, .int 6, .int 10, .int 2]) (nD (a % 4)) = some (nD wd) ∧ 2 ≤ wd ∧ wd ≤ 10 := by
  have : a % 4 = 0 ∨ a % 4 = 1 ∨ a % 4 = 2 ∨ a % 4 = 3 := by omega
  rcases this with h | h | h | h <;> rw [h]
  · exact ⟨4, rfl, by decide, by decide⟩
  · exact ⟨6, rfl, by decide, by decide⟩
  · exact ⟨10, rfl, by decide, by decide⟩
  · exact ⟨2, rfl, by decide, by decide⟩
theorem ixI_at {ns : List Nat} {f : Rho → Option D} {ρ : Rho} (e : f ρ = some (.list (ns.map nD))) (i : Nat) (h : i < ns.length) : app toIntD [PF.bin ixD f (cF (.int (i : Int)))] ρ = some (nD ns[i]) :=
  app1_at (bin_at (b := nD i) e rfl (ixN_l h)) (toInt_i _)
theorem seasons_ok (ns : List Nat) (hl : ns.length = 8) (way : Nat) : ∃ ss : List S2, d__law_seasons [.list (ns.map nD), nD way] = some (tSs ss) ∧ ss.length ≤ 4 ∧ (∀ p ∈ ss, Ok p) ∧ (way = 0 → ∃ x, ∀ p ∈ ss, On x p) ∧
    (way = 1 → ∃ p q, p ∈ ss ∧ q ∈ ss ∧ p.1 = q.1 ∧ p.2 ≠ q.2) := by
  obtain ⟨wd, hwd, w2, w10⟩ := wide_at ns[0]
  obtain ⟨ss, e1, h1, h2, h3⟩ := seas_loop hl (way := way) (wd := wd) (hd := ns[1] % 60) (by omega) w10 (ns[2] % 4) (by omega)
  have s2 : asgS 2 (PF.bin ixD (tupF [(cF (.int 4)), (cF (.int 6)), (cF (.int 10)), (cF (.int 2))]) (PF.bin modD (app toIntD [(PF.bin ixD (varF 0) (cF (.int 0)))]) (cF (.int 4)))) (env0 2 9 [.list (ns.map nD), nD way]) = some (.nx [some (.val (.list (ns.map nD))), some (.val (nD way)), some (.val (nD wd)), none, none, none, none, none, none]) :=
    asgS_at (bin_at (a := .tuple [.int 4, .int 6, .int 10, .int 2]) rfl (bin_at (b := nD 4) (ixI_at (ns := ns) rfl 0 (by omega)) rfl (modN_i _ (by decide))) hwd)
  have s3 : asgS 3 (PF.bin modD (app toIntD [(PF.bin ixD (varF 0) (cF (.int 1)))]) (cF (.int 60))) [some (.val (.list (ns.map nD))), some (.val (nD way)), some (.val (nD wd)), none, none, none, none, none, none] = some (.nx [some (.val (.list (ns.map nD))), some (.val (nD way)), some (.val (nD wd)), some (.val (nD (ns[1] % 60))), none, none, none, none, none]) :=
    asgS_at (bin_at (b := nD 60) (ixI_at (ns := ns) rfl 1 (by omega)) rfl (modN_i _ (by decide)))
  have hsrc := rng1_at (n := ns[2] % 4) (f := PF.bin modD (app toIntD [(PF.bin ixD (varF 0) (cF (.int 2)))]) (cF (.int 4))) (ρ := RS ns way wd (ns[1] % 60) []) (bin_at (b := nD 4) (ixI_at (ns := ns) rfl 2 (by omega)) rfl (modN_i _ (by decide))) (by omega)
  have s5 := forS_at hsrc e1
  by_cases hw : way = 1
  · subst hw
    obtain ⟨st, est⟩ : ∃ st, st = 2 + ns[6] % (wd - 1) := ⟨_, rfl⟩
    have st2 : 2 ≤ st := by omega
    have st10 : st ≤ 10 := by
      have := Nat.mod_lt ns[6] (show 0 < wd - 1 by omega)
      omega
    obtain ⟨fr, efr⟩ : ∃ fr, fr = ns[6] / 10 % st := ⟨_, rfl⟩
    have frl : fr < st := by rw [efr]; exact Nat.mod_lt _ (by omega)
    obtain ⟨ot, eot⟩ : ∃ ot, ot = if 2 < st then (fr + 1 + ns[7] % (st - 1)) % st else 1 - fr := ⟨_, rfl⟩
    have otl : ot < st ∧ fr ≠ ot := by
      rw [eot]
      by_cases h : 2 < st
      · rw [if_pos h]
        have hm := Nat.mod_lt ns[7] (show 0 < st - 1 by omega)
        refine ⟨Nat.mod_lt _ (by omega), fun e => ?_⟩
        by_cases hb : fr + 1 + ns[7] % (st - 1) < st
        · rw [Nat.mod_eq_of_lt hb] at e; omega
        · rw [Nat.mod_eq_sub_mod (by omega), Nat.mod_eq_of_lt (by omega)] at e; omega
      · rw [if_neg h]; omega
    obtain ⟨rs, ers⟩ : ∃ rs : List S2, rs = (st, fr) :: ss.take 2 ++ [(st, ot)] := ⟨_, rfl⟩
    have rl : rs.length ≤ 4 := by rw [ers]; simp; omega
    have rok : ∀ p ∈ rs, Ok p := fun p hp => by
      rw [ers] at hp
      rcases List.mem_append.mp hp with hp | hp
      · rcases List.mem_cons.mp hp with rfl | hp
        · exact ⟨by show 1 ≤ st; omega, st10, frl⟩
        · exact h2 p (List.mem_of_mem_take hp)
      · rw [List.mem_singleton.mp hp]
        exact ⟨by show 1 ≤ st; omega, st10, otl.1⟩
    have m1 : (st, fr) ∈ rs := by rw [ers]; simp
    have m2 : (st, ot) ∈ rs := by rw [ers]; simp
    have hc : tst (PF.bin eqD (varF 1) (cF (.int 1))) (RS ns 1 wd (ns[1] % 60) ss) = some true := rfl
    have a7 : asgS 7 (PF.bin addD (cF (.int 2)) (PF.bin modD (app toIntD [(PF.bin ixD (varF 0) (cF (.int 6)))]) (PF.bin subD (varF 2) (cF (.int 1))))) (RS ns 1 wd (ns[1] % 60) ss) = some (.nx [some (.val (.list (ns.map nD))), some (.val (nD 1)), some (.val (nD wd)), some (.val (nD (ns[1] % 60))), some (.own (ss.map tS)), none, none, some (.val (nD st)), none]) := by
      rw [est]
      exact asgS_at (bin_at (a := nD 2) rfl (bin_at (b := nD (wd - 1)) (ixI_at (ns := ns) rfl 6 (by omega)) (bin_at (a := nD wd) (b := nD 1) rfl rfl (subN_i (by omega))) (modN_i _ (by omega))) (addN_i _ _))
    have a8 : asgS 8 (PF.bin modD (PF.bin fdivD (app toIntD [(PF.bin ixD (varF 0) (cF (.int 6)))]) (cF (.int 10))) (varF 7)) [some (.val (.list (ns.map nD))), some (.val (nD 1)), some (.val (nD wd)), some (.val (nD (ns[1] % 60))), some (.own (ss.map tS)), none, none, some (.val (nD st)), none] = some (.nx [some (.val (.list (ns.map nD))), some (.val (nD 1)), some (.val (nD wd)), some (.val (nD (ns[1] % 60))), some (.own (ss.map tS)), none, none, some (.val (nD st)), some (.val (nD fr))]) := by
      rw [efr]
      exact asgS_at (bin_at (b := nD st) (bin_at (b := nD 10) (ixI_at (ns := ns) rfl 6 (by omega)) rfl (fdivN_i _ (by decide) (by decide))) rfl (modN_i _ (by omega)))
    have a4 : ownS 4 (PF.bin catD (lstF [(tupF [(varF 7), (varF 8)])]) (slF slL (ownF 4) noPart (partF (cF (.int 2))))) [some (.val (.list (ns.map nD))), some (.val (nD 1)), some (.val (nD wd)), some (.val (nD (ns[1] % 60))), some (.own (ss.map tS)), none, none, some (.val (nD st)), some (.val (nD fr))] = some (.nx [some (.val (.list (ns.map nD))), some (.val (nD 1)), some (.val (nD wd)), some (.val (nD (ns[1] % 60))), some (.own (((st, fr) :: ss.take 2).map tS)), none, none, some (.val (nD st)), some (.val (nD fr))]) := by
      refine ownS_at (bin_at (a := .list [tS (st, fr)]) (b := .list ((ss.map tS).take 2)) rfl ?_ ?_)
      · show some (PyData.list (cutD (ss.map tS) none (some 2))) = _
        rw [cut2]
      · show (if [tS (st, fr)].length + ((ss.map tS).take 2).length ≤ sizeLine then _ else _) = _
        rw [if_pos (by
          have : ((ss.map tS).take 2).length ≤ 2 := by rw [List.length_take]; omega
          exact Nat.le_trans (show [tS (st, fr)].length + ((ss.map tS).take 2).length ≤ 3 by simp only [List.length_singleton]; omega) (show 3 ≤ sizeLine by decide)), ← List.map_take]
        rfl
    have ap : appS 4 (tupF [(varF 7), (ifF (tst (PF.bin gtI (varF 7) (cF (.int 2)))) (PF.bin modD (PF.bin addD (PF.bin addD (varF 8) (cF (.int 1))) (PF.bin modD (app toIntD [(PF.bin ixD (varF 0) (cF (.int 7)))]) (PF.bin subD (varF 7) (cF (.int 1))))) (varF 7)) (PF.bin subD (cF (.int 1)) (varF 8)))]) [some (.val (.list (ns.map nD))), some (.val (nD 1)), some (.val (nD wd)), some (.val (nD (ns[1] % 60))), some (.own (((st, fr) :: ss.take 2).map tS)), none, none, some (.val (nD st)), some (.val (nD fr))] = some (.nx [some (.val (.list (ns.map nD))), some (.val (nD 1)), some (.val (nD wd)), some (.val (nD (ns[1] % 60))), some (.own (rs.map tS)), none, none, some (.val (nD st)), some (.val (nD fr))]) := by
      refine (appS_at (ds := ((st, fr) :: ss.take 2).map tS) (d := tS (st, ot)) rfl (tup2_at (a := nD st) rfl (ifF_at (b := decide (2 < st)) (tst_at (bin_at (a := nD st) (b := nD 2) rfl rfl (gtN_i _ _))) (fun e => ?_) fun e => ?_)) ?_).trans ?_
      · rw [eot, if_pos (of_decide_eq_true e)]
        exact bin_at (b := nD st) (bin_at (bin_at (a := nD fr) (b := nD 1) rfl rfl (addN_i _ _)) (bin_at (b := nD (st - 1)) (ixI_at (ns := ns) rfl 7 (by omega)) (bin_at (a := nD st) (b := nD 1) rfl rfl (subN_i (by omega))) (modN_i _ (by omega))) (addN_i _ _)) rfl (modN_i _ (by omega))
      · have := of_decide_eq_false e
        rw [eot, if_neg this]
        exact bin_at (a := nD 1) (b := nD fr) rfl rfl (subN_i (by omega))
      · rw [List.length_map, List.length_cons, List.length_take]
        exact Nat.lt_of_lt_of_le (show min 2 ss.length + 1 < 4 by omega) (show 4 ≤ sizeLine by decide)
      · rw [ers, List.map_append]
        rfl
    have hd : tst (PF.bin eqD (PF.bin modD (PF.bin fdivD (app toIntD [(PF.bin ixD (varF 0) (cF (.int 7)))]) (cF (.int 10))) (cF (.int 2))) (cF (.int 0))) [some (.val (.list (ns.map nD))), some (.val (nD 1)), some (.val (nD wd)), some (.val (nD (ns[1] % 60))), some (.own (rs.map tS)), none, none, some (.val (nD st)), some (.val (nD fr))] = some (decide (ns[7] / 10 % 2 = 0)) :=
      tst_at (bin_at (b := nD 0) (bin_at (b := nD 2) (bin_at (b := nD 10) (ixI_at (ns := ns) rfl 7 (by omega)) rfl (fdivN_i _ (by decide) (by decide))) rfl (modN_i _ (by decide))) rfl (eqN_i _ _))
    cases hb : decide (ns[7] / 10 % 2 = 0) with
    | true =>
      rw [hb] at hd
      refine ⟨rs.reverse, ?_, by rw [List.length_reverse]; exact rl, fun p hp => rok p (List.mem_reverse.mp hp), fun h => absurd h (by decide), fun _ => ⟨_, _, List.mem_reverse.mpr m1, List.mem_reverse.mpr m2, rfl, otl.2⟩⟩
      refine runF_rt rfl ((seqS_nx s2).trans ((seqS_nx s3).trans ((seqS_nx rfl).trans ((seqS_nx s5).trans ((seqS_nx ((ifS_t hc).trans ((seqS_nx a7).trans ((seqS_nx a8).trans ((seqS_nx a4).trans ((seqS_nx ap).trans ((ifS_t hd).trans (klS_nx (ownS_at (ds := (rs.map tS).reverse) rfl))))))))).trans ?_)))))
      exact retS_at (app1_at (d := .list ((rs.map tS).reverse)) rfl (by show some (PyData.tuple ((rs.map tS).reverse)) = _; rw [← List.map_reverse]; rfl))
    | false =>
      rw [hb] at hd
      refine ⟨rs, ?_, rl, rok, fun h => absurd h (by decide), fun _ => ⟨_, _, m1, m2, rfl, otl.2⟩⟩
      refine runF_rt rfl ((seqS_nx s2).trans ((seqS_nx s3).trans ((seqS_nx rfl).trans ((seqS_nx s5).trans ((seqS_nx ((ifS_t hc).trans ((seqS_nx a7).trans ((seqS_nx a8).trans ((seqS_nx a4).trans ((seqS_nx ap).trans ((ifS_f hd).trans (klS_nx rfl)))))))).trans ?_)))))
      exact retS_at (app1_at (d := .list (rs.map tS)) rfl rfl)
  · refine ⟨ss, ?_, by omega, h2, fun h => ⟨ns[1] % 60, h3 (by omega)⟩, fun h => absurd h hw⟩
    have hc : tst (PF.bin eqD (varF 1) (cF (.int 1))) (RS ns way wd (ns[1] % 60) ss) = some (decide (way = 1)) := tst_at (bin_at (a := nD way) (b := nD 1) rfl rfl (eqN_i _ _))
    rw [decide_eq_false hw] at hc
    refine runF_rt rfl ((seqS_nx s2).trans ((seqS_nx s3).trans ((seqS_nx rfl).trans ((seqS_nx s5).trans ((seqS_nx ((ifS_f hc).trans (klS_nx rfl))).trans ?_)))))
    exact retS_at (app1_at (d := .list (ss.map tS)) rfl rfl)
end K63

set_option Elab.async false
set_option linter.all false
set_option maxRecDepth 100000
set_option maxHeartbeats 1000000
namespace K63
open PySem PF
local instance : Tabs := ⟨[]⟩
abbrev LB1 : Rho → Option Out := (asgS 3 (app d__law_seasons [(slF slL (varF 1) (partF (bin mulD (cF (.int 8)) (varF 2))) (partF (bin addD (bin mulD (cF (.int 8)) (varF 2)) (cF (.int 8))))), (bin modD (varF 2) (cF (.int 3)))]))
abbrev LB2 : Rho → Option Out := (asgS 4 (app d__law_common [(varF 3)]))
abbrev LB3 : Rho → Option Out := (ifS (notB (tst (app allD [(compF [5] (srcF (varF 3)) (namP 5) yesB (bin eqD (bin modD (app toIntD [(varF 4)]) (bin ixD (varF 5) (cF (.int 0)))) (cF (.int 0))))]))) (retS (cF (.bool false))) nxS)
abbrev LB4 : Rho → Option Out := (ownS 6 (lstF []))
abbrev LB5 : Rho → Option Out := (forS (rng1F (app lenD [(varF 3)])) (namP 7) (klS [7] (forS (rng2F (bin addD (varF 7) (cF (.int 1))) (app lenD [(varF 3)])) (namP 8) (seqS (asgS 9 (app absD [(bin subD (bin ixD (bin ixD (varF 3) (varF 7)) (cF (.int 1))) (bin ixD (bin ixD (varF 3) (varF 8)) (cF (.int 1))))])) (ifS (tst (bin gtI (bin modD (app toIntD [(varF 9)]) (app d__law_divisor [(bin ixD (bin ixD (varF 3) (varF 7)) (cF (.int 0))), (bin ixD (bin ixD (varF 3) (varF 8)) (cF (.int 0)))])) (cF (.int 0)))) (klS [8, 9] (appS 6 (tupF [(varF 7), (varF 8)]))) (klS [8, 9] nxS))))))
abbrev LB6 : Rho → Option Out := (asgS 11 (compF [10] (rng1F (varF 4)) (namP 10) (tst (app allD [(compF [5] (srcF (varF 3)) (namP 5) yesB (app d__law_of [(varF 5), (varF 10)]))])) (varF 10)))
abbrev LB7 : Rho → Option Out := (ifS (orB (tst (bin neD (app lenD [(varF 11)]) (ifF (tst (bin eqD (app lenD [(ownF 6)]) (cF (.int 0)))) (cF (.int 1)) (cF (.int 0))))) (orB (andB (tst (bin eqD (varF 2) (cF (.int 0)))) (tst (bin eqD (app lenD [(varF 11)]) (cF (.int 0))))) (andB (tst (bin eqD (varF 2) (cF (.int 1)))) (tst (bin gtI (app lenD [(varF 11)]) (cF (.int 0))))))) (retS (cF (.bool false))) nxS)
abbrev LB8 : Rho → Option Out := (ifS (notB (tst (app (d__law_is 4) [(app d_told_miss [(varF 3)]), (ifF (tst (bin gtI (app lenD [(ownF 6)]) (cF (.int 0)))) (bin ixD (ownF 6) (cF (.int 0))) (cF .none))]))) (retS (cF (.bool false))) (klS [6] nxS))
abbrev LB9 : Rho → Option Out := (ifS (notB (tst (app (d__law_is 4) [(app d_joined_season [(varF 3)]), (ifF (tst (bin gtI (app lenD [(varF 11)]) (cF (.int 0)))) (tupF [(varF 4), (bin ixD (varF 11) (cF (.int 0)))]) (cF .none))]))) (retS (cF (.bool false))) nxS)
abbrev LB10 : Rho → Option Out := (asgS 12 (compF [10] (rng1F (varF 4)) (namP 10) (tst (bin eqD (app lenD [(compF [5] (srcF (varF 3)) (namP 5) (tst (app d__law_of [(varF 5), (varF 10)])) (varF 5))]) (cF (.int 0)))) (varF 10)))
abbrev LB11 : Rho → Option Out := (ifS (notB (tst (app (d__law_is 4) [(app d_told_quiet_day [(varF 3)]), (ifF (tst (bin gtI (app lenD [(varF 12)]) (cF (.int 0)))) (bin ixD (varF 12) (cF (.int 0))) (cF .none))]))) (retS (cF (.bool false))) (klS [12] nxS))
abbrev LB12 : Rho → Option Out := (asgS 13 (bin modD (app absD [(app toIntD [(appSc 0 d__law_cell [(bin addD (cF (.int 1)) (varF 2))])])]) (bin addD (bin powD (cF (.int 10)) (cF (.int 9))) (cF (.int 1)))))
abbrev LB13 : Rho → Option Out := (forS (srcF (tupF [(cF (.int 0)), (varF 13), (bin modD (app toIntD [(bin ixD (varF 1) (bin addD (cF (.int 32)) (varF 2)))]) (cF (.int 90))), (varF 4), (bin addD (varF 4) (ifF (tst (bin gtI (app lenD [(varF 11)]) (cF (.int 0)))) (bin ixD (varF 11) (cF (.int 0))) (cF (.int 1))))])) (namP 14) (seqS (asgS 15 (bin addD (varF 14) (bin modD (app toIntD [(bin subD (ifF (tst (bin gtI (app lenD [(varF 11)]) (cF (.int 0)))) (bin ixD (varF 11) (cF (.int 0))) (cF (.int 0))) (varF 14))]) (varF 4)))) (seqS (ifS (andB (tst (bin gtI (app lenD [(varF 11)]) (cF (.int 0)))) (orB (notB (tst (app allD [(compF [5] (srcF (varF 3)) (namP 5) yesB (app d__law_of [(varF 5), (varF 15)]))]))) (tst (bin ltI (varF 15) (varF 14))))) (retS (cF (.bool false))) nxS) (ifS (notB (tst (app (d__law_is 4) [(app d_next_meeting [(varF 3), (varF 14)]), (ifF (tst (bin gtI (app lenD [(varF 11)]) (cF (.int 0)))) (varF 15) (cF .none))]))) (retS (cF (.bool false))) (klS [14, 15] nxS)))))
abbrev lawB : Rho → Option Out := (seqS LB1 (seqS LB2 (seqS LB3 (seqS LB4 (seqS LB5 (seqS LB6 (seqS LB7 (seqS LB8 (seqS LB9 (seqS LB10 (seqS LB11 (seqS LB12 LB13))))))))))))
theorem d_law_eq : d_law = runS 0 15 (seqS (asgS 1 (app d__law_draws [(appSc 0 d__law_cell [(cF (.int 0))]), (cF (.int 50))])) (seqS (forS (rng1F (cF (.int 4))) (namP 2) (klS [3, 4, 11] lawB)) (retS (cF (.bool true))))) := rfl
abbrev LB13b : Rho → Option Out := (seqS (asgS 15 (bin addD (varF 14) (bin modD (app toIntD [(bin subD (ifF (tst (bin gtI (app lenD [(varF 11)]) (cF (.int 0)))) (bin ixD (varF 11) (cF (.int 0))) (cF (.int 0))) (varF 14))]) (varF 4)))) (seqS (ifS (andB (tst (bin gtI (app lenD [(varF 11)]) (cF (.int 0)))) (orB (notB (tst (app allD [(compF [5] (srcF (varF 3)) (namP 5) yesB (app d__law_of [(varF 5), (varF 15)]))]))) (tst (bin ltI (varF 15) (varF 14))))) (retS (cF (.bool false))) nxS) (ifS (notB (tst (app (d__law_is 4) [(app d_next_meeting [(varF 3), (varF 14)]), (ifF (tst (bin gtI (app lenD [(varF 11)]) (cF (.int 0)))) (varF 15) (cF .none))]))) (retS (cF (.bool false))) (klS [14, 15] nxS))))
abbrev LC1 : Rho → Option Out := (asgS 15 (bin addD (varF 14) (bin modD (app toIntD [(bin subD (ifF (tst (bin gtI (app lenD [(varF 11)]) (cF (.int 0)))) (bin ixD (varF 11) (cF (.int 0))) (cF (.int 0))) (varF 14))]) (varF 4))))
abbrev LC2 : Rho → Option Out := (ifS (andB (tst (bin gtI (app lenD [(varF 11)]) (cF (.int 0)))) (orB (notB (tst (app allD [(compF [5] (srcF (varF 3)) (namP 5) yesB (app d__law_of [(varF 5), (varF 15)]))]))) (tst (bin ltI (varF 15) (varF 14))))) (retS (cF (.bool false))) nxS)
abbrev LC3 : Rho → Option Out := (ifS (notB (tst (app (d__law_is 4) [(app d_next_meeting [(varF 3), (varF 14)]), (ifF (tst (bin gtI (app lenD [(varF 11)]) (cF (.int 0)))) (varF 15) (cF .none))]))) (retS (cF (.bool false))) (klS [14, 15] nxS))
abbrev LB5i : Rho → Option Out := (forS (rng2F (bin addD (varF 7) (cF (.int 1))) (app lenD [(varF 3)])) (namP 8) (seqS (asgS 9 (app absD [(bin subD (bin ixD (bin ixD (varF 3) (varF 7)) (cF (.int 1))) (bin ixD (bin ixD (varF 3) (varF 8)) (cF (.int 1))))])) (ifS (tst (bin gtI (bin modD (app toIntD [(varF 9)]) (app d__law_divisor [(bin ixD (bin ixD (varF 3) (varF 7)) (cF (.int 0))), (bin ixD (bin ixD (varF 3) (varF 8)) (cF (.int 0)))])) (cF (.int 0)))) (klS [8, 9] (appS 6 (tupF [(varF 7), (varF 8)]))) (klS [8, 9] nxS))))
abbrev LB5b : Rho → Option Out := (seqS (asgS 9 (app absD [(bin subD (bin ixD (bin ixD (varF 3) (varF 7)) (cF (.int 1))) (bin ixD (bin ixD (varF 3) (varF 8)) (cF (.int 1))))])) (ifS (tst (bin gtI (bin modD (app toIntD [(varF 9)]) (app d__law_divisor [(bin ixD (bin ixD (varF 3) (varF 7)) (cF (.int 0))), (bin ixD (bin ixD (varF 3) (varF 8)) (cF (.int 0)))])) (cF (.int 0)))) (klS [8, 9] (appS 6 (tupF [(varF 7), (varF 8)]))) (klS [8, 9] nxS)))
/-! ### the law's state -/
abbrev RX (ns : List Int) (dr : List Nat) (c2 c3 c4 c5 c6 c7 c8 c9 c10 c11 c12 c13 c14 c15 : Option Sl) : Rho := [some (.scr ns), some (.val (.list (dr.map nD))), c2, c3, c4, c5, c6, c7, c8, c9, c10, c11, c12, c13, c14, c15]
abbrev vD (d : D) : Option Sl := some (.val d)
abbrev oD (l : List (Nat × Nat)) : Option Sl := some (.own (l.map pairD))
theorem all_at {α : Type} (g : α → D) (c : α → Bool) {xs : List α} {vs : List Nat} {src : Rho → Option (List D)} {p : D → Rho → Option Rho} {f : Rho → Option D} {ρ : Rho} (e : src ρ = some (xs.map g))
    (h : ∀ x ∈ xs, ∃ ρ1, p (g x) (kill vs ρ) = some ρ1 ∧ f ρ1 = some (.bool (c x))) : app allD [compF vs src p yesB f] ρ = some (.bool (xs.all c)) := by
  have hl := compL_map (p := p) (t := yesB) (f := f) (ρ := kill vs ρ) g (fun _ => true) (fun x => .bool (c x)) xs fun x hx => by
    obtain ⟨ρ1, h1, h2⟩ := h x hx
    exact ⟨ρ1, h1, rfl, fun _ => h2⟩
  refine app1_at (compF_at e hl) ?_
  show ((boolsD _).map fun bs => PyData.bool (bs.all id)) = _
  rw [boolsD_of, Option.map_some]
  congr 2
  rw [List.all_map]
  have : xs.filter (fun _ => true) = xs := List.filter_eq_self.mpr fun _ _ => rfl
  rw [this]
  rfl
theorem cut_at {ds : List Nat} {a b : Nat} : cutD (ds.map nD) (some (a : Int)) (some (b : Int)) = (((ds.drop (min a ds.length)).take (min b ds.length - min a ds.length)).map nD) := by
  unfold cutD
  rw [HT.sIx_nat, HT.sIx_nat, List.length_map, ← List.map_drop, ← List.map_take]
theorem part_at {f : Rho → Option D} {ρ : Rho} {i : Int} (e : f ρ = some (.int i)) : partF f ρ = some (some i) := by
  unfold partF
  rw [e, Option.bind_some]
  rfl
theorem slL_at {f : Rho → Option D} {l h : Rho → Option (Option Int)} {ρ : Rho} {ds : List D} {lo hi : Option Int} (e : f ρ = some (.list ds)) (e1 : l ρ = some lo) (e2 : h ρ = some hi) : slF slL f l h ρ = some (.list (cutD ds lo hi)) := by
  unfold slF
  rw [e, Option.bind_some, e1, Option.bind_some, e2, Option.bind_some]
  rfl
section
variable {ns : List Int} {dr : List Nat} {k : Nat} {c13 : Option Sl} {ss : List S2}
theorem b1 (hl : dr.length = 50) (hk : k < 4) : ∃ ss : List S2, LB1 (RX ns dr (vD (nD k)) none none none none none none none none none none c13 none none) = some (.nx (RX ns dr (vD (nD k)) (vD (tSs ss)) none none none none none none none none none c13 none none)) ∧ ss.length ≤ 4 ∧ (∀ p ∈ ss, Ok p) ∧ (k = 0 → ∃ x, ∀ p ∈ ss, On x p) ∧
    (k = 1 → ∃ p q, p ∈ ss ∧ q ∈ ss ∧ p.1 = q.1 ∧ p.2 ≠ q.2) := by
  have h8 : ((dr.drop (min (8 * k) dr.length)).take (min (8 * k + 8) dr.length - min (8 * k) dr.length)).length = 8 := by
    rw [List.length_take, List.length_drop]; omega
  obtain ⟨ss, e, h1, h2, h3, h4⟩ := seasons_ok _ h8 (k % 3)
  refine ⟨ss, ?_, h1, h2, fun h => h3 (by omega), fun h => h4 (by omega)⟩
  have em : ∀ ρ : Rho, varF 2 ρ = some (nD k) → PF.bin mulD (cF (.int 8)) (varF 2) ρ = some (nD (8 * k)) := fun ρ h => bin_at (a := .int 8) rfl h ((mul_smallL (by decide)).trans rfl)
  refine asgS_at (app2_at (d := .list _) (d' := nD (k % 3)) (slL_at (ds := dr.map nD) (lo := some ((8 * k : Nat) : Int)) (hi := some ((8 * k + 8 : Nat) : Int)) rfl (part_at (em _ rfl)) (part_at (bin_at (em _ rfl) rfl rfl))) (bin_at (a := nD k) (b := nD 3) rfl rfl (modN_i _ (by decide))) ?_)
  rw [cut_at]
  exact e
theorem b2 (h : ∀ p ∈ ss, Ok p) : LB2 (RX ns dr (vD (nD k)) (vD (tSs ss)) none none none none none none none none none c13 none none) = some (.nx (RX ns dr (vD (nD k)) (vD (tSs ss)) (vD (nD (lcmF 1 ss))) none none none none none none none none c13 none none)) :=
  asgS_at (app1_at (d := tSs ss) rfl (lcommon_ok h))
theorem b3 (h : ∀ p ∈ ss, Ok p) : LB3 (RX ns dr (vD (nD k)) (vD (tSs ss)) (vD (nD (lcmF 1 ss))) none none none none none none none none c13 none none) = some (.nx (RX ns dr (vD (nD k)) (vD (tSs ss)) (vD (nD (lcmF 1 ss))) none none none none none none none none c13 none none)) := by
  have ha := all_at (vs := [5]) (src := srcF (varF 3)) (p := namP 5) (f := PF.bin eqD (PF.bin modD (app toIntD [(varF 4)]) (PF.bin ixD (varF 5) (cF (.int 0)))) (cF (.int 0))) (ρ := RX ns dr (vD (nD k)) (vD (tSs ss)) (vD (nD (lcmF 1 ss))) none none none none none none none none c13 none none) tS (fun _ => true) (xs := ss) rfl fun p hp => by
    refine ⟨RX ns dr (vD (nD k)) (vD (tSs ss)) (vD (nD (lcmF 1 ss))) (vD (tS p)) none none none none none none none c13 none none, rfl, ?_⟩
    have hp1 := (h p hp).1
    refine bin_at (b := nD 0) (bin_at (b := nD p.1) (app1_at (d := nD (lcmF 1 ss)) rfl (toInt_i _)) (bin_at (a := tS p) (b := .int 0) rfl rfl rfl) (modN_i _ (by omega))) rfl ((eqN_i _ _).trans ?_)
    rw [Nat.mod_eq_zero_of_dvd (dvd_lcmF (w := 1) hp)]
    rfl
  rw [List.all_eq_true.mpr (fun _ _ => rfl)] at ha
  exact (ifS_f (notB_at (b := true) (tst_at ha))).trans rfl
theorem b4 : LB4 (RX ns dr (vD (nD k)) (vD (tSs ss)) (vD (nD (lcmF 1 ss))) none none none none none none none none c13 none none) = some (.nx (RX ns dr (vD (nD k)) (vD (tSs ss)) (vD (nD (lcmF 1 ss))) none (oD []) none none none none none none c13 none none)) := rfl
theorem len_ss {ρ : Rho} (e : varF 3 ρ = some (tSs ss)) : app lenD [(varF 3)] ρ = some (nD ss.length) := by
  refine app1_at e ?_
  show some (PyData.int ((ss.map tS).length : Int)) = _
  rw [List.length_map]
theorem ix_ss {ρ : Rho} {f : Rho → Option D} {i : Nat} (e : varF 3 ρ = some (tSs ss)) (e2 : f ρ = some (nD i)) (h : i < ss.length) : PF.bin ixD (varF 3) f ρ = some (tS ss[i]) := by
  refine bin_at e e2 ?_
  show ixD (.tuple (ss.map tS)) (.int (i : Int)) = _
  rw [ix_tup, List.getElem?_map, List.getElem?_eq_getElem h]
  rfl
theorem abs_miss {p q : S2} (h : 1 ≤ p.1) : decide (0 < (if (p.2 : Int) - (q.2 : Int) < 0 then -((p.2 : Int) - (q.2 : Int)) else (p.2 : Int) - (q.2 : Int)).fmod ((Nat.gcd p.1 q.1 : Nat) : Int)) = missB p q := by
  have g0 : 0 < Nat.gcd p.1 q.1 := Nat.gcd_pos_of_pos_left _ h
  have lo : ∀ z : Int, 0 ≤ z.fmod ((Nat.gcd p.1 q.1 : Nat) : Int) := fun z => fmod_lo (by omega)
  have dv : ∀ z : Int, z.fmod ((Nat.gcd p.1 q.1 : Nat) : Int) = 0 ↔ ((Nat.gcd p.1 q.1 : Nat) : Int) ∣ z := fun z => by
    rw [Int.fmod_eq_emod_of_nonneg _ (Int.natCast_nonneg _)]
    exact ⟨Int.dvd_of_emod_eq_zero, Int.emod_eq_zero_of_dvd⟩
  cases hb : missB p q with
  | false =>
    have hd := miss_iff.mp hb
    rw [decide_eq_false]
    have : (if (p.2 : Int) - (q.2 : Int) < 0 then -((p.2 : Int) - (q.2 : Int)) else (p.2 : Int) - (q.2 : Int)).fmod ((Nat.gcd p.1 q.1 : Nat) : Int) = 0 := by
      rw [dv]
      split
      · exact Int.dvd_neg.mpr hd
      · exact hd
    omega
  | true =>
    rw [decide_eq_true]
    have h1 := lo (if (p.2 : Int) - (q.2 : Int) < 0 then -((p.2 : Int) - (q.2 : Int)) else (p.2 : Int) - (q.2 : Int))
    rcases Int.lt_or_eq_of_le h1 with h2 | h2
    · exact h2
    · have h3 := (dv _).mp h2.symm
      have h4 : ((Nat.gcd p.1 q.1 : Nat) : Int) ∣ (p.2 : Int) - (q.2 : Int) := by
        split at h3
        · exact Int.dvd_neg.mp h3
        · exact h3
      rw [miss_iff.mpr h4] at hb
      cases hb
theorem b5i (h : ∀ p ∈ ss, Ok p) (hl : ss.length ≤ 4) {i : Nat} (hi : i < ss.length) (acc : List (Nat × Nat)) (ha : acc.length ≤ 4 * i) :
    LB5i (RX ns dr (vD (nD k)) (vD (tSs ss)) (vD (nD (lcmF 1 ss))) none (oD acc) (vD (nD i)) none none none none none c13 none none) = some (.nx (RX ns dr (vD (nD k)) (vD (tSs ss)) (vD (nD (lcmF 1 ss))) none (oD (acc ++ (inner ss.length i).filter (missAt ss))) (vD (nD i)) none none none none none c13 none none)) := by
  obtain ⟨ρ', e1, e2⟩ := forL_inv (p := namP 8) (b := LB5b) (fun t : Nat => (.int ((i + 1 + t : Nat) : Int) : D)) (fun t ρ => ρ = RX ns dr (vD (nD k)) (vD (tSs ss)) (vD (nD (lcmF 1 ss))) none (oD (acc ++ (((List.range t).map fun t => (i, i + 1 + t)).filter (missAt ss)))) (vD (nD i)) none none none none none c13 none none)
    (List.range (ss.length - (i + 1))) 0 _ rfl (by
      rintro j t ρ hj rfl
      have hjt : j < ss.length - (i + 1) ∧ t = j := by
        obtain ⟨a, b⟩ := List.getElem?_eq_some_iff.mp hj
        rw [List.getElem_range] at b
        rw [List.length_range] at a
        exact ⟨a, b.symm⟩
      obtain ⟨hj1, rfl⟩ := hjt
      rw [Nat.zero_add]
      have hj2 : i + 1 + t < ss.length := by omega
      have m : missAt ss (i, i + 1 + t) = missB ss[i] ss[i + 1 + t] := by
        unfold missAt
        rw [List.getElem?_eq_getElem hi, List.getElem?_eq_getElem hj2]
      have oki := h ss[i] (List.getElem_mem _)
      have okj := h ss[i + 1 + t] (List.getElem_mem _)
      obtain ⟨z, ez⟩ : ∃ z : Int, z = if (ss[i].2 : Int) - (ss[i + 1 + t].2 : Int) < 0 then -((ss[i].2 : Int) - (ss[i + 1 + t].2 : Int)) else (ss[i].2 : Int) - (ss[i + 1 + t].2 : Int) := ⟨_, rfl⟩
      have e9 : asgS 9 (app absD [(PF.bin subD (PF.bin ixD (PF.bin ixD (varF 3) (varF 7)) (cF (.int 1))) (PF.bin ixD (PF.bin ixD (varF 3) (varF 8)) (cF (.int 1))))]) (RX ns dr (vD (nD k)) (vD (tSs ss)) (vD (nD (lcmF 1 ss))) none (oD (acc ++ (((List.range t).map fun t => (i, i + 1 + t)).filter (missAt ss)))) (vD (nD i)) (vD (nD (i + 1 + t))) none none none none c13 none none) =
          some (.nx (RX ns dr (vD (nD k)) (vD (tSs ss)) (vD (nD (lcmF 1 ss))) none (oD (acc ++ (((List.range t).map fun t => (i, i + 1 + t)).filter (missAt ss)))) (vD (nD i)) (vD (nD (i + 1 + t))) (vD (.int z)) none none none c13 none none)) := by
        refine asgS_at (app1_at (bin_at (a := nD ss[i].2) (b := nD ss[i + 1 + t].2) (bin_at (ix_ss rfl rfl hi) rfl rfl) (bin_at (ix_ss rfl rfl hj2) rfl rfl) (subD_i _ _)) ?_)
        rw [ez]; rfl
      have hc : tst (PF.bin gtI (PF.bin modD (app toIntD [(varF 9)]) (app d__law_divisor [(PF.bin ixD (PF.bin ixD (varF 3) (varF 7)) (cF (.int 0))), (PF.bin ixD (PF.bin ixD (varF 3) (varF 8)) (cF (.int 0)))])) (cF (.int 0))) (RX ns dr (vD (nD k)) (vD (tSs ss)) (vD (nD (lcmF 1 ss))) none (oD (acc ++ (((List.range t).map fun t => (i, i + 1 + t)).filter (missAt ss)))) (vD (nD i)) (vD (nD (i + 1 + t))) (vD (.int z)) none none none c13 none none) = some (missB ss[i] ss[i + 1 + t]) := by
        have g0 : 0 < Nat.gcd ss[i].1 ss[i + 1 + t].1 := Nat.gcd_pos_of_pos_left _ oki.1
        refine tst_at (bin_at (bin_at (app1_at (d := .int z) rfl (toInt_i _)) (app2_at (d := nD ss[i].1) (d' := nD ss[i + 1 + t].1) (bin_at (ix_ss rfl rfl hi) rfl rfl) (bin_at (ix_ss rfl rfl hj2) rfl rfl) (div_ok oki.1 okj.1 (by have := oki.2.1; omega))) (modD_i _ (by omega))) rfl ((gtI_i _ _).trans ?_))
        rw [ez, abs_miss oki.1]
      have alen : (acc ++ (((List.range t).map fun t => (i, i + 1 + t)).filter (missAt ss))).length < 100 := by
        have := List.length_filter_le (missAt ss) ((List.range t).map fun t => (i, i + 1 + t))
        rw [List.length_map, List.length_range] at this
        rw [List.length_append]
        omega
      have elast : ((List.range (t + 1)).map fun t => (i, i + 1 + t)).filter (missAt ss) = ((List.range t).map fun t => (i, i + 1 + t)).filter (missAt ss) ++ (if missB ss[i] ss[i + 1 + t] = true then [(i, i + 1 + t)] else []) := by
        rw [List.range_succ, List.map_append, List.filter_append]
        congr 1
        rw [List.map_cons, List.map_nil, List.filter_cons, List.filter_nil, m]
      refine ⟨_, ?_, rfl⟩
      rw [namP_bind, elast]
      refine (seqS_nx e9).trans ?_
      cases hb : missB ss[i] ss[i + 1 + t] with
      | true =>
        rw [hb] at hc
        refine (ifS_t hc).trans ((klS_nx (appS_at (ds := (acc ++ (((List.range t).map fun t => (i, i + 1 + t)).filter (missAt ss))).map pairD) (d := pairD (i, i + 1 + t)) rfl (tup2_at (a := nD i) (b := nD (i + 1 + t)) rfl rfl) ?_)).trans ?_)
        · rw [List.length_map]
          exact Nat.lt_of_lt_of_le alen (show 100 ≤ sizeLine by decide)
        · have eo : ∀ (A : List (Nat × Nat)) x, oD (A ++ [x]) = some (.own (A.map pairD ++ [pairD x])) := fun A x => by
            show some (Sl.own ((A ++ [x]).map pairD)) = _
            rw [List.map_append]
            rfl
          rw [if_pos rfl, ← List.append_assoc, eo]
          rfl
      | false =>
        rw [hb] at hc
        refine (ifS_f hc).trans ((klS_nx rfl).trans ?_)
        rw [if_neg (by decide), List.append_nil]
        rfl)
  rw [Nat.zero_add, List.length_range] at e2
  subst e2
  have e0 : acc ++ (((List.range 0).map fun t => (i, i + 1 + t)).filter (missAt ss)) = acc := by simp
  rw [e0] at e1
  exact forS_at (rng2_at (a := i + 1) (b := ss.length) rfl (len_ss rfl) (by omega) (by omega)) e1
theorem b5 (h : ∀ p ∈ ss, Ok p) (hl : ss.length ≤ 4) :
    LB5 (RX ns dr (vD (nD k)) (vD (tSs ss)) (vD (nD (lcmF 1 ss))) none (oD []) none none none none none none c13 none none) = some (.nx (RX ns dr (vD (nD k)) (vD (tSs ss)) (vD (nD (lcmF 1 ss))) none (oD ((pairs ss.length).filter (missAt ss))) none none none none none none c13 none none)) := by
  have flen : ∀ (l : List Nat), (∀ i ∈ l, True) → (l.flatMap fun i => (inner ss.length i).filter (missAt ss)).length ≤ 4 * l.length := fun l _ => by
    induction l with
    | nil => simp
    | cons i l ih =>
      rw [List.flatMap_cons, List.length_append, List.length_cons]
      have h1 := List.length_filter_le (missAt ss) (inner ss.length i)
      have h2 : (inner ss.length i).length ≤ 4 := by unfold inner; rw [List.length_map, List.length_range]; omega
      have := ih fun _ _ => trivial
      omega
  obtain ⟨ρ', e1, e2⟩ := forL_inv (p := namP 7) (b := klS [7] LB5i) (fun t : Nat => (.int (t : Int) : D)) (fun t ρ => ρ = RX ns dr (vD (nD k)) (vD (tSs ss)) (vD (nD (lcmF 1 ss))) none (oD ((List.range t).flatMap fun i => (inner ss.length i).filter (missAt ss))) none none none none none none c13 none none)
    (List.range ss.length) 0 _ rfl (by
      rintro j t ρ hj rfl
      have hjt : j < ss.length ∧ t = j := by
        obtain ⟨a, b⟩ := List.getElem?_eq_some_iff.mp hj
        rw [List.getElem_range] at b
        rw [List.length_range] at a
        exact ⟨a, b.symm⟩
      obtain ⟨hj1, rfl⟩ := hjt
      rw [Nat.zero_add]
      have b := b5i (ns := ns) (dr := dr) (k := k) (c13 := c13) h hl hj1 ((List.range t).flatMap fun i => (inner ss.length i).filter (missAt ss)) (by
        have := flen (List.range t) fun _ _ => trivial
        rw [List.length_range] at this
        exact this)
      refine ⟨_, ?_, rfl⟩
      rw [namP_bind, List.range_succ, List.flatMap_append, List.flatMap_singleton]
      exact (klS_nx b).trans rfl)
  rw [Nat.zero_add, List.length_range] at e2
  subst e2
  refine forS_at (rng1_at (n := ss.length) (len_ss rfl) (by omega)) (e1.trans ?_)
  have : ((List.range ss.length).flatMap fun i => (inner ss.length i).filter (missAt ss)) = (pairs ss.length).filter (missAt ss) := by
    unfold pairs
    rw [List.filter_flatMap]
  rw [this]
/-- the days that are of all -/
abbrev met (ss : List S2) : List Nat := (List.range (lcmF 1 ss)).filter fun x => ss.all (onB x)
abbrev quiet (ss : List S2) : List Nat := (List.range (lcmF 1 ss)).filter fun x => decide ((ss.filter (onB x)).length = 0)
theorem b6 (h : ∀ p ∈ ss, Ok p) {c6 : Option Sl} : LB6 (RX ns dr (vD (nD k)) (vD (tSs ss)) (vD (nD (lcmF 1 ss))) none c6 none none none none none none c13 none none) = some (.nx (RX ns dr (vD (nD k)) (vD (tSs ss)) (vD (nD (lcmF 1 ss))) none c6 none none none none (vD (.list ((met ss).map nD))) none c13 none none)) := by
  have hw := lcmF_le h
  refine asgS_at (compF_at (rng1_at (n := lcmF 1 ss) rfl (by omega)) (compL_map (fun x : Nat => (.int (x : Int) : D)) (fun x => ss.all (onB x)) nD _ fun x _ => ?_))
  refine ⟨RX ns dr (vD (nD k)) (vD (tSs ss)) (vD (nD (lcmF 1 ss))) none c6 none none none (vD (nD x)) none none c13 none none, rfl, tst_at (all_at tS (onB x) (xs := ss) rfl fun p hp => ?_), fun _ => rfl⟩
  exact ⟨RX ns dr (vD (nD k)) (vD (tSs ss)) (vD (nD (lcmF 1 ss))) (vD (tS p)) c6 none none none (vD (nD x)) none none c13 none none, rfl, app2_at (d := tS p) (d' := nD x) rfl rfl (of_ok (h p hp).1)⟩
theorem b10 (h : ∀ p ∈ ss, Ok p) {c11 : Option Sl} : LB10 (RX ns dr (vD (nD k)) (vD (tSs ss)) (vD (nD (lcmF 1 ss))) none none none none none none c11 none c13 none none) = some (.nx (RX ns dr (vD (nD k)) (vD (tSs ss)) (vD (nD (lcmF 1 ss))) none none none none none none c11 (vD (.list ((quiet ss).map nD))) c13 none none)) := by
  have hw := lcmF_le h
  refine asgS_at (compF_at (rng1_at (n := lcmF 1 ss) rfl (by omega)) (compL_map (fun x : Nat => (.int (x : Int) : D)) (fun x => decide ((ss.filter (onB x)).length = 0)) nD _ fun x _ => ?_))
  refine ⟨RX ns dr (vD (nD k)) (vD (tSs ss)) (vD (nD (lcmF 1 ss))) none none none none none (vD (nD x)) c11 none c13 none none, rfl, ?_, fun _ => rfl⟩
  have hl := compL_map (p := namP 5) (t := tst (app d__law_of [(varF 5), (varF 10)])) (f := varF 5) (ρ := kill [5] (RX ns dr (vD (nD k)) (vD (tSs ss)) (vD (nD (lcmF 1 ss))) none none none none none (vD (nD x)) c11 none c13 none none)) tS (onB x) tS ss fun p hp =>
    ⟨RX ns dr (vD (nD k)) (vD (tSs ss)) (vD (nD (lcmF 1 ss))) (vD (tS p)) none none none none (vD (nD x)) c11 none c13 none none, rfl, tst_at (app2_at (d := tS p) (d' := nD x) rfl rfl (of_ok (h p hp).1)), fun _ => rfl⟩
  refine tst_at (bin_at (a := nD (ss.filter (onB x)).length) (b := nD 0) (app1_at (compF_at (ds := ss.map tS) rfl hl) ?_) rfl (eqN_i _ _))
  show some (PyData.int (((ss.filter (onB x)).map tS).length : Int)) = _
  rw [List.length_map]
theorem onB_iff {x : Nat} {p : S2} : onB x p = true ↔ On x p := by
  unfold onB On
  exact decide_eq_true_iff
theorem mem_met {x : Nat} : x ∈ met ss ↔ x < lcmF 1 ss ∧ ∀ p ∈ ss, On x p := by
  rw [List.mem_filter, List.mem_range, List.all_eq_true]
  exact ⟨fun h => ⟨h.1, fun p hp => onB_iff.mp (h.2 p hp)⟩, fun h => ⟨h.1, fun p hp => onB_iff.mpr (h.2 p hp)⟩⟩
theorem met_one (h : ∀ p ∈ ss, Ok p) {x : Nat} (hx : ∀ p ∈ ss, On x p) : met ss = [x % lcmF 1 ss] := by
  have hw := lcmF_pos (w := 1) (by decide) h
  refine filter_one _ (Nat.mod_lt _ hw) ?_ fun y hy hq => ?_
  · rw [List.all_eq_true]
    intro p hp
    refine onB_iff.mpr ?_
    show x % lcmF 1 ss % p.1 = p.2
    rw [Nat.mod_mod_of_dvd _ (dvd_lcmF (w := 1) hp)]
    exact hx p hp
  · rw [List.all_eq_true] at hq
    have hd : ((lcmF 1 ss : Nat) : Int) ∣ (x : Int) - (y : Int) := lcmF_idvd fun p hp => by
      obtain ⟨a, ha⟩ := on_dvd (hx p hp)
      obtain ⟨b, hb⟩ := on_dvd (onB_iff.mp (hq p hp))
      exact ⟨a - b, by rw [Int.mul_sub]; omega⟩
    have h1 := Int.emod_eq_emod_iff_emod_sub_eq_zero.mpr (Int.emod_eq_zero_of_dvd hd)
    have h2 : (y : Int) % ((lcmF 1 ss : Nat) : Int) = (y : Int) := Int.emod_eq_of_lt (by omega) (by omega)
    rw [h2] at h1
    omega
theorem met_none {ij : Nat × Nat} (hm : (pairs ss.length).find? (missAt ss) = some ij) : met ss = [] := by
  refine List.eq_nil_iff_forall_not_mem.mpr fun y hy => ?_
  obtain ⟨_, hy⟩ := mem_met.mp hy
  have h1 := List.find?_some hm
  unfold missAt at h1
  cases e1 : ss[ij.1]? with
  | none => simp only [e1] at h1; cases h1
  | some p =>
    cases e2 : ss[ij.2]? with
    | none => simp only [e1, e2] at h1; cases h1
    | some q =>
      simp only [e1, e2] at h1
      rw [on_miss (hy p (List.mem_of_getElem? e1)) (hy q (List.mem_of_getElem? e2))] at h1
      cases h1
theorem lenL {f : Rho → Option D} {ρ : Rho} {l : List D} (e : f ρ = some (.list l)) : app lenD [f] ρ = some (nD l.length) := app1_at e rfl
theorem b7 {M : List (Nat × Nat)} {T : List Nat} {c3 c4 : Option Sl} (hL : T.length = if M.length = 0 then 1 else 0) (h0 : k = 0 → T.length ≠ 0) (h1 : k = 1 → T.length = 0) :
    LB7 (RX ns dr (vD (nD k)) c3 c4 none (oD M) none none none none (vD (.list (T.map nD))) none c13 none none) = some (.nx (RX ns dr (vD (nD k)) c3 c4 none (oD M) none none none none (vD (.list (T.map nD))) none c13 none none)) := by
  have lT : app lenD [varF 11] (RX ns dr (vD (nD k)) c3 c4 none (oD M) none none none none (vD (.list (T.map nD))) none c13 none none) = some (nD T.length) := by
    have := lenL (f := varF 11) (ρ := RX ns dr (vD (nD k)) c3 c4 none (oD M) none none none none (vD (.list (T.map nD))) none c13 none none) (l := T.map nD) rfl
    rw [List.length_map] at this
    exact this
  have lM : app lenD [ownF 6] (RX ns dr (vD (nD k)) c3 c4 none (oD M) none none none none (vD (.list (T.map nD))) none c13 none none) = some (nD M.length) := by
    have := lenL (f := ownF 6) (ρ := RX ns dr (vD (nD k)) c3 c4 none (oD M) none none none none (vD (.list (T.map nD))) none c13 none none) (l := M.map pairD) rfl
    rw [List.length_map] at this
    exact this
  refine (ifS_f (orB_at (a := false) (b := false) (tst_at (bin_at (b := nD (if M.length = 0 then 1 else 0)) lT (ifF_at (b := decide (M.length = 0)) (tst_at (bin_at (b := nD 0) lM rfl (eqN_i _ _))) (fun e => ?_) fun e => ?_) ((neN_i _ _).trans ?_))) (orB_at (a := false) (b := false) ((andB_at (tst_at (bin_at (a := nD k) (b := nD 0) rfl rfl (eqN_i _ _))) (tst_at (bin_at (b := nD 0) lT rfl (eqN_i _ _)))).trans ?_) ((andB_at (tst_at (bin_at (a := nD k) (b := nD 1) rfl rfl (eqN_i _ _))) (tst_at (bin_at (b := nD 0) lT rfl (gtN_i _ _)))).trans ?_)))).trans rfl
  · rw [if_pos (of_decide_eq_true e)]; rfl
  · rw [if_neg (of_decide_eq_false e)]; rfl
  · rw [hL, decide_eq_true rfl]; rfl
  · by_cases e : k = 0
    · rw [decide_eq_false (h0 e), Bool.and_false]
    · rw [decide_eq_false e]; rfl
  · by_cases e : k = 1
    · simp [h1 e]
    · rw [decide_eq_false e]; rfl
theorem is_ok4 {f g : Rho → Option D} {ρ : Rho} {d : D} (e1 : f ρ = some d) (e2 : g ρ = some d) (h : d__law_is 4 [d, d] = some (.bool true)) : notB (tst (app (d__law_is 4) [f, g])) ρ = some false :=
  notB_at (b := true) (tst_at (app2_at e1 e2 h))
theorem b8 (h : ∀ p ∈ ss, Ok p) (hl : ss.length ≤ 4) {c4 c11 : Option Sl} :
    LB8 (RX ns dr (vD (nD k)) (vD (tSs ss)) c4 none (oD ((pairs ss.length).filter (missAt ss))) none none none none c11 none c13 none none) = some (.nx (RX ns dr (vD (nD k)) (vD (tSs ss)) c4 none none none none none none c11 none c13 none none)) := by
  have ht := told_miss_ok (ss := ss) (fun p hp => by have := (h p hp).1; omega) (by omega)
  have lM : app lenD [ownF 6] (RX ns dr (vD (nD k)) (vD (tSs ss)) c4 none (oD ((pairs ss.length).filter (missAt ss))) none none none none c11 none c13 none none) = some (nD ((pairs ss.length).filter (missAt ss)).length) := by
    have := lenL (f := ownF 6) (ρ := RX ns dr (vD (nD k)) (vD (tSs ss)) c4 none (oD ((pairs ss.length).filter (missAt ss))) none none none none c11 none c13 none none) (l := ((pairs ss.length).filter (missAt ss)).map pairD) rfl
    rw [List.length_map] at this
    exact this
  have hh : ((pairs ss.length).filter (missAt ss)).head? = (pairs ss.length).find? (missAt ss) := List.head?_filter ..
  cases hm : (pairs ss.length).find? (missAt ss) with
  | none =>
    rw [hm] at ht hh
    have e0 : (pairs ss.length).filter (missAt ss) = [] := List.head?_eq_none_iff.mp hh
    refine (ifS_f (is_ok4 (app1_at (d := tSs ss) rfl ht) (ifF_at (b := decide (0 < ((pairs ss.length).filter (missAt ss)).length)) (tst_at (bin_at (b := nD 0) lM rfl (gtN_i _ _))) (fun e => ?_) fun _ => rfl) (is_none 3))).trans rfl
    rw [e0] at e
    cases e
  | some ij =>
    rw [hm] at ht hh
    obtain ⟨tl, e0⟩ : ∃ tl, (pairs ss.length).filter (missAt ss) = ij :: tl := by
      cases e : (pairs ss.length).filter (missAt ss) with
      | nil => rw [e] at hh; cases hh
      | cons a tl => rw [e] at hh; cases hh; exact ⟨tl, rfl⟩
    refine (ifS_f (is_ok4 (d := pairD ij) (app1_at (d := tSs ss) rfl ht) (ifF_at (b := decide (0 < ((pairs ss.length).filter (missAt ss)).length)) (tst_at (bin_at (b := nD 0) lM rfl (gtN_i _ _))) (fun e => ?_) fun e => ?_) (is_pair 2 _ _))).trans rfl
    · rw [e0]
      exact bin_at (a := .list ((ij :: tl).map pairD)) (b := nD 0) rfl rfl ((ix_list _ 0).trans rfl)
    · rw [e0] at e
      have := of_decide_eq_false e
      exact absurd (Nat.succ_pos _) this
/-- both ways to know the days that meet -/
theorem two_ways (h : ∀ p ∈ ss, Ok p) (hl : ss.length ≤ 4) : (∃ d : Nat, (∀ p ∈ ss, On d p) ∧ (pairs ss.length).find? (missAt ss) = none ∧ met ss = [d % lcmF 1 ss] ∧ d_joined_season [tSs ss] = some (.tuple [nD (lcmF 1 ss), nD (d % lcmF 1 ss)])) ∨
    (∃ ij, (pairs ss.length).find? (missAt ss) = some ij ∧ met ss = [] ∧ d_joined_season [tSs ss] = some .none) := by
  cases hm : (pairs ss.length).find? (missAt ss) with
  | none =>
    obtain ⟨x, hx⟩ := meet_all h hm
    obtain ⟨d, e, hd⟩ := joined_ok h (by omega) hm hx
    exact .inl ⟨d, hd, rfl, met_one h hd, e⟩
  | some ij => exact .inr ⟨ij, rfl, met_none hm, joined_none h (by omega) hm⟩
theorem b9 (h : ∀ p ∈ ss, Ok p) (hl : ss.length ≤ 4) :
    LB9 (RX ns dr (vD (nD k)) (vD (tSs ss)) (vD (nD (lcmF 1 ss))) none none none none none none (vD (.list ((met ss).map nD))) none c13 none none) = some (.nx (RX ns dr (vD (nD k)) (vD (tSs ss)) (vD (nD (lcmF 1 ss))) none none none none none none (vD (.list ((met ss).map nD))) none c13 none none)) := by
  rcases two_ways h hl with ⟨d, _, _, e1, e2⟩ | ⟨ij, _, e1, e2⟩
  · rw [e1]
    refine (ifS_f (is_ok4 (d := .tuple [nD (lcmF 1 ss), nD (d % lcmF 1 ss)]) (app1_at (d := tSs ss) rfl e2) (ifF_at (b := true) rfl (fun _ => tup2_at rfl rfl) (fun e => by cases e)) (is_pair 2 _ _))).trans rfl
  · rw [e1]
    exact (ifS_f (is_ok4 (d := .none) (app1_at (d := tSs ss) rfl e2) (ifF_at (b := false) rfl (fun e => by cases e) fun _ => rfl) (is_none 3))).trans rfl
theorem b11 (h : ∀ p ∈ ss, Ok p) {c4 c11 : Option Sl} :
    LB11 (RX ns dr (vD (nD k)) (vD (tSs ss)) c4 none none none none none none c11 (vD (.list ((quiet ss).map nD))) c13 none none) = some (.nx (RX ns dr (vD (nD k)) (vD (tSs ss)) c4 none none none none none none c11 none c13 none none)) := by
  have hq := quiet_ok h
  have ep : (fun x => decide ((ss.filter (onB x)).length = 0)) = fun x => !ss.any (onB x) := by
    funext x
    cases ha : ss.any (onB x) with
    | true =>
      obtain ⟨p, hp, hb⟩ := List.any_eq_true.mp ha
      have : 0 < (ss.filter (onB x)).length := List.length_pos_of_mem (List.mem_filter.mpr ⟨hp, hb⟩)
      rw [decide_eq_false (by omega)]; rfl
    | false =>
      have : ss.filter (onB x) = [] := by
        rw [List.filter_eq_nil_iff]
        intro p hp hb
        rw [List.any_eq_true.mpr ⟨p, hp, hb⟩] at ha
        cases ha
      rw [this]; rfl
  have hh : (quiet ss).head? = (List.range (lcmF 1 ss)).find? (fun x => !ss.any (onB x)) := by
    show ((List.range (lcmF 1 ss)).filter _).head? = _
    rw [ep]
    exact List.head?_filter ..
  have lQ : app lenD [varF 12] (RX ns dr (vD (nD k)) (vD (tSs ss)) c4 none none none none none none c11 (vD (.list ((quiet ss).map nD))) c13 none none) = some (nD (quiet ss).length) := by
    have := lenL (f := varF 12) (ρ := RX ns dr (vD (nD k)) (vD (tSs ss)) c4 none none none none none none c11 (vD (.list ((quiet ss).map nD))) c13 none none) (l := (quiet ss).map nD) rfl
    rw [List.length_map] at this
    exact this
  cases hm : (List.range (lcmF 1 ss)).find? (fun x => !ss.any (onB x)) with
  | none =>
    rw [hm] at hq hh
    have e0 : quiet ss = [] := List.head?_eq_none_iff.mp hh
    refine (ifS_f (is_ok4 (d := .none) (app1_at (d := tSs ss) rfl hq) (ifF_at (b := decide (0 < (quiet ss).length)) (tst_at (bin_at (b := nD 0) lQ rfl (gtN_i _ _))) (fun e => ?_) fun _ => rfl) (is_none 3))).trans rfl
    rw [e0] at e
    cases e
  | some x =>
    rw [hm] at hq hh
    obtain ⟨tl, e0⟩ : ∃ tl, quiet ss = x :: tl := by
      cases e : quiet ss with
      | nil => rw [e] at hh; cases hh
      | cons a tl => rw [e] at hh; cases hh; exact ⟨tl, rfl⟩
    refine (ifS_f (is_ok4 (d := nD x) (app1_at (d := tSs ss) rfl hq) (ifF_at (b := decide (0 < (quiet ss).length)) (tst_at (bin_at (b := nD 0) lQ rfl (gtN_i _ _))) (fun e => ?_) fun e => ?_) (is_int 3 _))).trans rfl
    · rw [e0]
      exact bin_at (a := .list ((x :: tl).map nD)) (b := nD 0) rfl rfl ((ix_list _ 0).trans rfl)
    · rw [e0] at e
      have := of_decide_eq_false e
      exact absurd (Nat.succ_pos _) this
theorem b12 {c3 c4 c11 : Option Sl} : ∃ c : Nat, LB12 (RX ns dr (vD (nD k)) c3 c4 none none none none none none c11 none c13 none none) = some (.nx (RX ns dr (vD (nD k)) c3 c4 none none none none none none c11 none (vD (nD c)) none none)) := by
  obtain ⟨z, hz⟩ := cell_ok ns (1 + k)
  have hp : powD (.int 10) (.int 9) = some (.int 1000000000) := by kernel_rfl
  obtain ⟨y, hy⟩ : ∃ y : Int, y = if z < 0 then -z else z := ⟨_, rfl⟩
  have lo := fmod_lo (a := y) (b := 1000000001) (by decide)
  have hs : appSc 0 d__law_cell [(PF.bin addD (cF (.int 1)) (varF 2))] (RX ns dr (vD (nD k)) c3 c4 none none none none none none c11 none c13 none none) = some (.int z) := appSc_at (ds := [nD (1 + k)]) rfl rfl hz
  refine ⟨(y.fmod 1000000001).toNat, asgS_at (bin_at (a := .int y) (b := .int 1000000001) (app1_at (app1_at hs (toInt_i _)) (by rw [hy]; rfl)) (bin_at (bin_at rfl rfl hp) rfl rfl) ((modD_i _ (by decide)).trans ?_))⟩
  show some (PyData.int (y.fmod 1000000001)) = some (PyData.int (((y.fmod 1000000001).toNat : Nat) : Int))
  rw [Int.toNat_of_nonneg lo]
/-- the state behind that -/
abbrev RZ (ns : List Int) (dr : List Nat) (k : Nat) (ss : List S2) (c : Nat) (c14 c15 : Option Sl) : Rho := RX ns dr (vD (nD k)) (vD (tSs ss)) (vD (nD (lcmF 1 ss))) none none none none none none (vD (.list ((met ss).map nD))) none (vD (nD c)) c14 c15
theorem b13b (h : ∀ p ∈ ss, Ok p) (hl : ss.length ≤ 4) {c : Nat} (st : Nat) : LB13b (RZ ns dr k ss c (vD (nD st)) none) = some (.nx (RZ ns dr k ss c none none)) := by
  have hw := lcmF_pos (w := 1) (by decide) h
  rcases two_ways h hl with ⟨d, hd, _, e1, e2⟩ | ⟨ij, _, e1, e2⟩
  · unfold RZ
    rw [e1]
    obtain ⟨m, hm⟩ : ∃ m, m = d % lcmF 1 ss := ⟨_, rfl⟩
    rw [← hm] at e2 ⊢
    have lo := fmod_lo (a := (m : Int) - (st : Int)) (b := ((lcmF 1 ss : Nat) : Int)) (by omega)
    obtain ⟨du, hdu⟩ : ∃ du : Nat, du = st + (((m : Int) - (st : Int)).fmod ((lcmF 1 ss : Nat) : Int)).toNat := ⟨_, rfl⟩
    have hdi : (du : Int) = (st : Int) + ((m : Int) - (st : Int)).fmod ((lcmF 1 ss : Nat) : Int) := by
      rw [hdu, Int.natCast_add, Int.toNat_of_nonneg lo]
    have hon : ∀ p ∈ ss, On du p := fun p hp => by
      refine on_of_dvd (h p hp) ?_
      have hmo : On m p := by
        show m % p.1 = p.2
        rw [hm, Nat.mod_mod_of_dvd _ (dvd_lcmF (w := 1) hp)]
        exact hd p hp
      obtain ⟨a, ha⟩ := on_dvd hmo
      obtain ⟨b, hb⟩ := dvd_lcmF (w := 1) hp
      have em := Int.emod_add_mul_ediv ((m : Int) - (st : Int)) ((lcmF 1 ss : Nat) : Int)
      rw [Int.fmod_eq_emod_of_nonneg _ (Int.natCast_nonneg _)] at hdi
      have hb2 : ((lcmF 1 ss : Nat) : Int) = (p.1 : Int) * (b : Int) := by rw [hb]; exact Int.natCast_mul _ _
      refine ⟨a - (b : Int) * (((m : Int) - (st : Int)) / ((lcmF 1 ss : Nat) : Int)), ?_⟩
      rw [Int.mul_sub, ← ha, ← Int.mul_assoc, ← hb2]
      omega
    have s15 : LC1 (RX ns dr (vD (nD k)) (vD (tSs ss)) (vD (nD (lcmF 1 ss))) none none none none none none (vD (.list ([m].map nD))) none (vD (nD c)) (vD (nD st)) none) = some (.nx (RX ns dr (vD (nD k)) (vD (tSs ss)) (vD (nD (lcmF 1 ss))) none none none none none none (vD (.list ([m].map nD))) none (vD (nD c)) (vD (nD st)) (vD (nD du)))) := by
      refine asgS_at (bin_at (a := nD st) rfl (bin_at (b := nD (lcmF 1 ss)) (app1_at (bin_at (a := nD m) (b := nD st) (ifF_at (b := true) rfl (fun _ => rfl) fun e => by cases e) rfl (subD_i _ _)) (toInt_i _)) rfl (modD_i _ (by omega))) ((addD_i _ _).trans ?_))
      rw [← hdi]
    have al := all_at (vs := [5]) (src := srcF (varF 3)) (p := namP 5) (f := app d__law_of [(varF 5), (varF 15)]) (ρ := RX ns dr (vD (nD k)) (vD (tSs ss)) (vD (nD (lcmF 1 ss))) none none none none none none (vD (.list ([m].map nD))) none (vD (nD c)) (vD (nD st)) (vD (nD du))) tS (onB du) (xs := ss) rfl fun p hp =>
      ⟨RX ns dr (vD (nD k)) (vD (tSs ss)) (vD (nD (lcmF 1 ss))) (vD (tS p)) none none none none none (vD (.list ([m].map nD))) none (vD (nD c)) (vD (nD st)) (vD (nD du)), rfl, app2_at (d := tS p) (d' := nD du) rfl rfl (of_ok (h p hp).1)⟩
    rw [List.all_eq_true.mpr fun p hp => onB_iff.mpr (hon p hp)] at al
    have lt : tst (PF.bin ltI (varF 15) (varF 14)) (RX ns dr (vD (nD k)) (vD (tSs ss)) (vD (nD (lcmF 1 ss))) none none none none none none (vD (.list ([m].map nD))) none (vD (nD c)) (vD (nD st)) (vD (nD du))) = some false := by
      refine tst_at ((bin_at (a := nD du) (b := nD st) rfl rfl (ltN_i _ _)).trans ?_)
      rw [decide_eq_false (by omega)]
    refine (seqS_nx s15).trans ((seqS_nx ((ifS_f (andB_at (a := true) (b := false) rfl (orB_at (a := false) (notB_at (b := true) (tst_at al)) lt))).trans rfl)).trans ?_)
    refine (ifS_f (is_ok4 (d := nD du) (app2_at (d := tSs ss) (d' := nD st) rfl rfl ((next_some (w := ((lcmF 1 ss : Nat) : Int)) (m := (m : Int)) (n := (st : Int)) (by omega) e2).trans ?_)) (ifF_at (b := true) rfl (fun _ => rfl) fun e => by cases e) (is_int 3 _))).trans ((klS_nx rfl).trans rfl)
    rw [← hdi]
  · unfold RZ
    rw [e1]
    obtain ⟨v, hv⟩ : ∃ v : D, PF.bin addD (varF 14) (PF.bin modD (app toIntD [(PF.bin subD (ifF (tst (PF.bin gtI (app lenD [(varF 11)]) (cF (.int 0)))) (PF.bin ixD (varF 11) (cF (.int 0))) (cF (.int 0))) (varF 14))]) (varF 4)) (RX ns dr (vD (nD k)) (vD (tSs ss)) (vD (nD (lcmF 1 ss))) none none none none none none (vD (.list (([] : List Nat).map nD))) none (vD (nD c)) (vD (nD st)) none) = some v :=
      ⟨_, bin_at (a := nD st) rfl (bin_at (b := nD (lcmF 1 ss)) (app1_at (bin_at (a := nD 0) (b := nD st) (ifF_at (b := false) rfl (fun e => by cases e) fun _ => rfl) rfl (subD_i _ _)) (toInt_i _)) rfl (modD_i _ (by omega))) (addD_i _ _)⟩
    refine (seqS_nx (asgS_at hv)).trans ((seqS_nx ((ifS_f (andB_f rfl)).trans rfl)).trans ?_)
    exact (ifS_f (is_ok4 (d := .none) (app2_at (d := tSs ss) (d' := nD st) rfl rfl (next_none e2)) (ifF_at (b := false) rfl (fun e => by cases e) fun _ => rfl) (is_none 3))).trans ((klS_nx rfl).trans rfl)
theorem b13 (h : ∀ p ∈ ss, Ok p) (hl : ss.length ≤ 4) (hd : dr.length = 50) (hk : k < 4) {c : Nat} : LB13 (RZ ns dr k ss c none none) = some (.nx (RZ ns dr k ss c none none)) := by
  obtain ⟨m, hm⟩ : ∃ m : Nat, ifF (tst (PF.bin gtI (app lenD [(varF 11)]) (cF (.int 0)))) (PF.bin ixD (varF 11) (cF (.int 0))) (cF (.int 1)) (RZ ns dr k ss c none none) = some (nD m) := by
    rcases two_ways h hl with ⟨d, _, _, e1, _⟩ | ⟨ij, _, e1, _⟩
    · unfold RZ
      rw [e1]
      exact ⟨d % lcmF 1 ss, ifF_at (b := true) rfl (fun _ => rfl) fun e => by cases e⟩
    · unfold RZ
      rw [e1]
      exact ⟨1, ifF_at (b := false) rfl (fun e => by cases e) fun _ => rfl⟩
  have hx : PF.bin modD (app toIntD [(PF.bin ixD (varF 1) (PF.bin addD (cF (.int 32)) (varF 2)))]) (cF (.int 90)) (RZ ns dr k ss c none none) = some (nD (dr[32 + k]'(by omega) % 90)) :=
    bin_at (b := nD 90) (app1_at (bin_at (a := .list (dr.map nD)) (b := nD (32 + k)) rfl rfl (ixN_l (by omega))) (toInt_i _)) rfl (modN_i _ (by decide))
  have hsrc : srcF (tupF [(cF (.int 0)), (varF 13), (PF.bin modD (app toIntD [(PF.bin ixD (varF 1) (PF.bin addD (cF (.int 32)) (varF 2)))]) (cF (.int 90))), (varF 4), (PF.bin addD (varF 4) (ifF (tst (PF.bin gtI (app lenD [(varF 11)]) (cF (.int 0)))) (PF.bin ixD (varF 11) (cF (.int 0))) (cF (.int 1))))]) (RZ ns dr k ss c none none) = some ([0, c, dr[32 + k]'(by omega) % 90, lcmF 1 ss, lcmF 1 ss + m].map nD) := by
    unfold srcF
    rw [tup5_at (a := nD 0) (b := nD c) (d := nD (lcmF 1 ss)) rfl rfl hx rfl (bin_at (a := nD (lcmF 1 ss)) rfl hm (addN_i _ _)), Option.bind_some]
    rfl
  have lp := forL_find (p := namP 14) (b := LB13b) nD (RZ ns dr k ss c none none) (fun _ => none) [0, c, dr[32 + k]'(by omega) % 90, lcmF 1 ss, lcmF 1 ss + m] fun st _ => by
    rw [namP_bind]
    exact b13b h hl st
  refine forS_at hsrc (lp.trans ?_)
  rfl
/-- one round of the law -/
theorem law_turn (hd : dr.length = 50) (hk : k < 4) : ∃ c : Nat, klS [3, 4, 11] lawB (RX ns dr (vD (nD k)) none none none none none none none none none none c13 none none) = some (.nx (RX ns dr (vD (nD k)) none none none none none none none none none none (vD (nD c)) none none)) := by
  obtain ⟨ss, e1, hl, h, h0, h1⟩ := b1 (ns := ns) (c13 := c13) hd hk
  obtain ⟨c, e12⟩ := b12 (ns := ns) (dr := dr) (k := k) (c13 := c13) (c3 := vD (tSs ss)) (c4 := vD (nD (lcmF 1 ss))) (c11 := vD (.list ((met ss).map nD)))
  have e7 := b7 (ns := ns) (dr := dr) (k := k) (c13 := c13) (M := (pairs ss.length).filter (missAt ss)) (T := met ss) (c3 := vD (tSs ss)) (c4 := vD (nD (lcmF 1 ss))) (by
    rcases two_ways h hl with ⟨d, _, m0, m1, _⟩ | ⟨ij, m0, m1, _⟩
    · have : (pairs ss.length).filter (missAt ss) = [] := by
        rw [List.filter_eq_nil_iff]
        exact List.find?_eq_none.mp m0
      rw [m1, this]; rfl
    · have h2 := List.mem_of_find?_eq_some m0
      have h3 := List.find?_some m0
      have : 0 < ((pairs ss.length).filter (missAt ss)).length := List.length_pos_of_mem (List.mem_filter.mpr ⟨h2, h3⟩)
      rw [m1, if_neg (by omega)]; rfl) (fun e => by
      obtain ⟨x, hx⟩ := h0 e
      rw [met_one h hx]
      exact Nat.one_ne_zero) (fun e => by
      obtain ⟨p, q, hp, hq, k1, k2⟩ := h1 e
      have : met ss = [] := List.eq_nil_iff_forall_not_mem.mpr fun y hy => by
        obtain ⟨_, hy⟩ := mem_met.mp hy
        have a := hy p hp
        have b := hy q hq
        unfold On at a b
        rw [k1] at a
        exact k2 (a.symm.trans b)
      rw [this]; rfl)
  refine ⟨c, (klS_nx (ρ' := RZ ns dr k ss c none none) ?_).trans rfl⟩
  · exact (seqS_nx e1).trans ((seqS_nx (b2 h)).trans ((seqS_nx (b3 h)).trans ((seqS_nx b4).trans ((seqS_nx (b5 h hl)).trans ((seqS_nx (b6 h)).trans ((seqS_nx e7).trans ((seqS_nx (b8 h hl)).trans ((seqS_nx (b9 h hl)).trans ((seqS_nx (b10 h)).trans ((seqS_nx (b11 h)).trans ((seqS_nx e12).trans (b13 h hl hd hk))))))))))))
end
theorem d_law_true : ∀ ns : List Int, ns.length ≤ 63 → d_law ns [] = some (.bool true) := by
  intro ns _
  obtain ⟨z, hz⟩ := cell_ok ns 0
  obtain ⟨ds, e1, hl, hb⟩ := draws_ok z 50 (by decide)
  have ed : ds.map PyData.int = (ds.map Int.toNat).map nD := by
    rw [List.map_map]
    refine List.map_congr_left fun x hx => ?_
    show PyData.int x = PyData.int ((x.toNat : Nat) : Int)
    rw [Int.toNat_of_nonneg (hb x hx).1]
  rw [ed] at e1
  have hl2 : (ds.map Int.toNat).length = 50 := by rw [List.length_map]; exact hl
  obtain ⟨ρ', e2, c2, c13, rfl⟩ := forL_inv (p := namP 2) (b := klS [3, 4, 11] lawB) (fun k : Nat => (.int (k : Int) : D)) (fun _ ρ => ∃ c2 c13 : Option Sl, ρ = RX ns (ds.map Int.toNat) c2 none none none none none none none none none none c13 none none) (List.range 4) 0 (RX ns (ds.map Int.toNat) none none none none none none none none none none none none none none) ⟨none, none, rfl⟩ (by
    rintro i k ρ hk ⟨c2, c13, rfl⟩
    have hk4 : k < 4 := by
      obtain ⟨a, b⟩ := List.getElem?_eq_some_iff.mp hk
      rw [List.getElem_range] at b
      rw [List.length_range] at a
      omega
    obtain ⟨c, e⟩ := law_turn (ns := ns) (c13 := c13) hl2 hk4
    exact ⟨RX ns (ds.map Int.toNat) (vD (nD k)) none none none none none none none none none none (vD (nD c)) none none, (by rw [namP_bind]; exact e), _, _, rfl⟩)
  have hs : appSc 0 d__law_cell [(cF (.int 0))] (envS 0 15 ns []) = some (.int z) := appSc_at (ds := [nD 0]) rfl rfl hz
  rw [d_law_eq]
  refine runS_rt rfl ((seqS_nx (asgS_at (app2_at (d := .int z) (d' := .int ((50 : Nat) : Int)) hs rfl e1))).trans ?_)
  exact (seqS_nx (forS_at (rng1_at (n := 4) rfl (by decide)) e2)).trans rfl
end K63

namespace K63
open PySem PySem.Spec PyProof.Rows L2 PF GxR
def fnl : List He.DefD := [dd "do_miss" s_do_miss, dd "told_miss" s_told_miss, dd "common_step" s_common_step, dd "joined_season" s_joined_season, dd "next_meeting" s_next_meeting, dd "told_quiet_day" s_told_quiet_day, dd "_law_cell" s__law_cell, dd "_law_draws" s__law_draws, dd "_law_is_integer" s__law_is_integer, dd "_law_is" s__law_is, dd "_law_seasons" s__law_seasons, dd "_law_of" s__law_of, dd "_law_divisor" s__law_divisor, dd "_law_common" s__law_common, dd "law" s_law]
def fal : List He.Fa := [.glo "do_miss", .glo "told_miss", .glo "common_step", .glo "joined_season", .glo "next_meeting", .glo "told_quiet_day", .glo "_law_cell", .glo "_law_draws", .glo "_law_is_integer", .glo "_law_is", .glo "_law_seasons", .glo "_law_of", .glo "_law_divisor", .glo "_law_common", .glo "law", .free "abs", .free "all", .free "any", .free "bool", .free "int", .free "isinstance", .free "len", .free "max", .free "min", .free "range", .free "str", .free "tuple"]
def tfl : List He.Defn := [("told_quiet_day", none)]
def exf (K : PySem.W.Frag) : Bool := decide (PySem.W.nsIn K mainGlobals "gcd" = some (some (.builtin "math.gcd")))
abbrev R : PySem.W.OpenRow := PySem.W.OpenLaw.row PySem.Challenge.rw_slopeward_k63_whole_seasons_that_meet
abbrev hk : PySem.W.Hook := He.hookX 4 fal fnl [] tfl exf
def ob (s : PySem.W.SharedT) : He.AlX := He.obsX 4 fal fnl [] tfl exf (HandSHeadRun.getT s)
theorem ob_eq (s : PySem.W.SharedT) : ob s = hk.obs s.abs := He.obsX_eq (HandSHeadRun.getT_eq s)
def loosel : List PySem.Str := ["do_miss", "told_miss", "common_step", "joined_season", "next_meeting", "told_quiet_day", "_law_cell", "_law_draws", "_law_is_integer", "_law_is", "_law_seasons", "_law_of", "_law_divisor", "_law_common", "__name__"]
theorem run (w : World) : HandSHeadRun.RunEqI R (PySem.W.view R.prog [0, 17]) hk ob 4000 loosel w := by
  unfold HandSHeadRun.RunEqI
  kernel_rfl
theorem facts {w : World} {K : PySem.W.Frag} {h : Heap} {mg : Str → Option Value} {f : Addr} (dl : ∀ ns : List Int, ns.length ≤ 63 → d_law ns [] = some (.bool true)) (X : K.In h) (G : h.Ns mainGlobals mg) (hfa : mg ("law" : Str) = some (.ref f)) (c : He.SaysX fal fnl [] tfl exf w h K) :
    LamX.LawAtS PySem.Challenge.rw_slopeward_k63_whole_seasons_that_meet w K CX0 7 63 "script" mg f h := by
  have cd := c.t.d
  have gl := hfa.symm.trans (def_glo X G cd (x := "law") (by simp [fal]))
  cases gl
  obtain ⟨fd_do_miss, F_do_miss⟩ := def_fun cd (x := "do_miss") (st := s_do_miss) (by simp [fnl])
  obtain ⟨fd_told_miss, F_told_miss⟩ := def_fun cd (x := "told_miss") (st := s_told_miss) (by simp [fnl])
  obtain ⟨fd_common_step, F_common_step⟩ := def_fun cd (x := "common_step") (st := s_common_step) (by simp [fnl])
  obtain ⟨fd_joined_season, F_joined_season⟩ := def_fun cd (x := "joined_season") (st := s_joined_season) (by simp [fnl])
  obtain ⟨fd_next_meeting, F_next_meeting⟩ := def_fun cd (x := "next_meeting") (st := s_next_meeting) (by simp [fnl])
  obtain ⟨fd_told_quiet_day, F_told_quiet_day⟩ := def_fun cd (x := "told_quiet_day") (st := s_told_quiet_day) (by simp [fnl])
  obtain ⟨fd__law_cell, F__law_cell⟩ := def_fun cd (x := "_law_cell") (st := s__law_cell) (by simp [fnl])
  obtain ⟨fd__law_draws, F__law_draws⟩ := def_fun cd (x := "_law_draws") (st := s__law_draws) (by simp [fnl])
  obtain ⟨fd__law_is_integer, F__law_is_integer⟩ := def_fun cd (x := "_law_is_integer") (st := s__law_is_integer) (by simp [fnl])
  obtain ⟨fd__law_is, F__law_is⟩ := def_fun cd (x := "_law_is") (st := s__law_is) (by simp [fnl])
  obtain ⟨fd__law_seasons, F__law_seasons⟩ := def_fun cd (x := "_law_seasons") (st := s__law_seasons) (by simp [fnl])
  obtain ⟨fd__law_of, F__law_of⟩ := def_fun cd (x := "_law_of") (st := s__law_of) (by simp [fnl])
  obtain ⟨fd__law_divisor, F__law_divisor⟩ := def_fun cd (x := "_law_divisor") (st := s__law_divisor) (by simp [fnl])
  obtain ⟨fd__law_common, F__law_common⟩ := def_fun cd (x := "_law_common") (st := s__law_common) (by simp [fnl])
  obtain ⟨fd_law, F_law⟩ := def_fun cd (x := "law") (st := s_law) (by simp [fnl])
  have A_do_miss : DefAt K mg "do_miss" s_do_miss ps_do_miss (He.ga K "do_miss") fd_do_miss := ⟨F_do_miss, def_glo X G cd (by simp [fal]), F_do_miss.bindsN fun _ _ _ _ _ _ us hl => match us, hl with | [_, _], _ => rfl⟩
  have A_told_miss : DefAt K mg "told_miss" s_told_miss ps_told_miss (He.ga K "told_miss") fd_told_miss := ⟨F_told_miss, def_glo X G cd (by simp [fal]), F_told_miss.bindsN fun _ _ _ _ _ _ us hl => match us, hl with | [_], _ => rfl⟩
  have A_common_step : DefAt K mg "common_step" s_common_step ps_common_step (He.ga K "common_step") fd_common_step := ⟨F_common_step, def_glo X G cd (by simp [fal]), F_common_step.bindsN fun _ _ _ _ _ _ us hl => match us, hl with | [_], _ => rfl⟩
  have A_joined_season : DefAt K mg "joined_season" s_joined_season ps_joined_season (He.ga K "joined_season") fd_joined_season := ⟨F_joined_season, def_glo X G cd (by simp [fal]), F_joined_season.bindsN fun _ _ _ _ _ _ us hl => match us, hl with | [_], _ => rfl⟩
  have A_next_meeting : DefAt K mg "next_meeting" s_next_meeting ps_next_meeting (He.ga K "next_meeting") fd_next_meeting := ⟨F_next_meeting, def_glo X G cd (by simp [fal]), F_next_meeting.bindsN fun _ _ _ _ _ _ us hl => match us, hl with | [_, _], _ => rfl⟩
  have A_told_quiet_day : DefAt K mg "told_quiet_day" s_told_quiet_day ps_told_quiet_day (He.ga K "told_quiet_day") fd_told_quiet_day := ⟨F_told_quiet_day, def_glo X G cd (by simp [fal]), F_told_quiet_day.bindsN fun _ _ _ _ _ _ us hl => match us, hl with | [_], _ => rfl⟩
  have A__law_cell : DefAt K mg "_law_cell" s__law_cell ps__law_cell (He.ga K "_law_cell") fd__law_cell := ⟨F__law_cell, def_glo X G cd (by simp [fal]), F__law_cell.bindsN fun _ _ _ _ _ _ us hl => match us, hl with | [_, _], _ => rfl⟩
  have A__law_draws : DefAt K mg "_law_draws" s__law_draws ps__law_draws (He.ga K "_law_draws") fd__law_draws := ⟨F__law_draws, def_glo X G cd (by simp [fal]), F__law_draws.bindsN fun _ _ _ _ _ _ us hl => match us, hl with | [_, _], _ => rfl⟩
  have A__law_is_integer : DefAt K mg "_law_is_integer" s__law_is_integer ps__law_is_integer (He.ga K "_law_is_integer") fd__law_is_integer := ⟨F__law_is_integer, def_glo X G cd (by simp [fal]), F__law_is_integer.bindsN fun _ _ _ _ _ _ us hl => match us, hl with | [_], _ => rfl⟩
  have A__law_is : DefAt K mg "_law_is" s__law_is ps__law_is (He.ga K "_law_is") fd__law_is := ⟨F__law_is, def_glo X G cd (by simp [fal]), F__law_is.bindsN fun _ _ _ _ _ _ us hl => match us, hl with | [_, _], _ => rfl⟩
  have A__law_seasons : DefAt K mg "_law_seasons" s__law_seasons ps__law_seasons (He.ga K "_law_seasons") fd__law_seasons := ⟨F__law_seasons, def_glo X G cd (by simp [fal]), F__law_seasons.bindsN fun _ _ _ _ _ _ us hl => match us, hl with | [_, _], _ => rfl⟩
  have A__law_of : DefAt K mg "_law_of" s__law_of ps__law_of (He.ga K "_law_of") fd__law_of := ⟨F__law_of, def_glo X G cd (by simp [fal]), F__law_of.bindsN fun _ _ _ _ _ _ us hl => match us, hl with | [_, _], _ => rfl⟩
  have A__law_divisor : DefAt K mg "_law_divisor" s__law_divisor ps__law_divisor (He.ga K "_law_divisor") fd__law_divisor := ⟨F__law_divisor, def_glo X G cd (by simp [fal]), F__law_divisor.bindsN fun _ _ _ _ _ _ us hl => match us, hl with | [_, _], _ => rfl⟩
  have A__law_common : DefAt K mg "_law_common" s__law_common ps__law_common (He.ga K "_law_common") fd__law_common := ⟨F__law_common, def_glo X G cd (by simp [fal]), F__law_common.bindsN fun _ _ _ _ _ _ us hl => match us, hl with | [_], _ => rfl⟩
  have b := FunD.bindsA (ps := ["script"]) F_law fun _ _ _ _ _ _ us hl => match us, hl with | [_], _ => rfl
  refine law_end (tf := tfl) X c (fun s v => b s [v] rfl) dl fun base B1 B2 TB => ?_
  letI : Tabs := ⟨(tfl.map (He.cT K)).map (·.2)⟩
  exact ok_law {
    fd_do_miss := fd_do_miss, do_miss := A_do_miss,
    fd_told_miss := fd_told_miss, told_miss := A_told_miss,
    fd_common_step := fd_common_step, common_step := A_common_step,
    fd_joined_season := fd_joined_season, joined_season := A_joined_season,
    fd_next_meeting := fd_next_meeting, next_meeting := A_next_meeting,
    fd_told_quiet_day := fd_told_quiet_day, told_quiet_day := A_told_quiet_day,
    c_told_quiet_day := (He.cT K ("told_quiet_day", none)).1, p_told_quiet_day := (He.cT K ("told_quiet_day", none)).2, tb_told_quiet_day := TB _ (List.mem_map.mpr ⟨("told_quiet_day", none), by simp [tfl], rfl⟩), cd_told_quiet_day := def_code F_told_quiet_day, tm_told_quiet_day := List.mem_map.mpr ⟨_, List.mem_map.mpr ⟨("told_quiet_day", none), by simp [tfl], rfl⟩, rfl⟩,
    fd__law_cell := fd__law_cell, _law_cell := A__law_cell,
    fd__law_draws := fd__law_draws, _law_draws := A__law_draws,
    fd__law_is_integer := fd__law_is_integer, _law_is_integer := A__law_is_integer,
    fd__law_is := fd__law_is, _law_is := A__law_is,
    fd__law_seasons := fd__law_seasons, _law_seasons := A__law_seasons,
    fd__law_of := fd__law_of, _law_of := A__law_of,
    fd__law_divisor := fd__law_divisor, _law_divisor := A__law_divisor,
    fd__law_common := fd__law_common, _law_common := A__law_common,
    b_abs := def_free X G cd (by simp [fal]),
    b_all := def_free X G cd (by simp [fal]),
    b_any := def_free X G cd (by simp [fal]),
    b_bool := def_free X G cd (by simp [fal]),
    b_int := def_free X G cd (by simp [fal]),
    b_isinstance := def_free X G cd (by simp [fal]),
    b_len := def_free X G cd (by simp [fal]),
    b_max := def_free X G cd (by simp [fal]),
    b_min := def_free X G cd (by simp [fal]),
    b_range := def_free X G cd (by simp [fal]),
    b_str := def_free X G cd (by simp [fal]),
    b_tuple := def_free X G cd (by simp [fal]),
    b_gcd := PySem.W.mg_of X G (by have e := c.more; unfold exf at e; simp only [Bool.and_eq_true, decide_eq_true_eq] at e; exact e),
  } F_law
end K63
open PySem PySem.W PySem.Calls PyProof.Rows
set_option maxRecDepth 100000 in
set_option maxHeartbeats 0 in
theorem PySem.Challenge.cw_slopeward_k63_whole_seasons_that_meet_holds : PySem.Challenge.rw_slopeward_k63_whole_seasons_that_meet.Holds := by
  w_on; o_law
  refine HandSHeadRun.head_imp (r := OpenLaw.row PySem.Challenge.rw_slopeward_k63_whole_seasons_that_meet) (q := view (OpenLaw.row PySem.Challenge.rw_slopeward_k63_whole_seasons_that_meet).prog [0, 17]) (H := K63.hk) (ob := K63.ob) (M := 4000) (loose := K63.loosel) (d := HandSHeadRun.topDef (OpenLaw.row PySem.Challenge.rw_slopeward_k63_whole_seasons_that_meet).prog 17) (kwd := []) K63.ob_eq
    K63.run (by kernel_rfl) (by kernel_rfl) (by kernel_rfl) (by rfl) (by first | assumption | decide +kernel) (by decide +kernel) ⟨rfl, rfl, rfl, rfl, rfl, by decide +kernel⟩ ?hw ?hc
  case hw => w_witness2
  case hc =>
    refine LamX.walk_ofTsE (l := PySem.Challenge.rw_slopeward_k63_whole_seasons_that_meet) (n := 63) (k := 7) (x := "script") (CX := fun _ => L2.CX0) rfl (by decide) (by kernel_rfl) ⟨rfl, by decide, by decide⟩ ?F (fun _ _ _ _ _ z => z)
    intro w mg fa h Y G hmg0
    obtain ⟨K, KX, c⟩ := Y
    have hmg : mg ("law" : PySem.Str) = some (.ref fa) := by
      have e : (HandSHeadRun.topDef (OpenLaw.row PySem.Challenge.rw_slopeward_k63_whole_seasons_that_meet).prog 17).name = ("law" : PySem.Str) := by kernel_rfl
      rw [← e]
      exact hmg0
    exact ⟨K, KX, K63.facts K63.d_law_true KX G hmg c⟩

