import PyProof.Rows.All
import Wide.All
import OpenK.AllK
import Wide.FinOn
import HandS.AnyAll
import HandS.GenList
import HandS.Comp
import HandS.Lambda
import HandS.ForMost
import HandS.Conv
import HandS.Deep
import HandS.Style
import HandS.TupAny
import HandS.DictComp
import HandS.Defaults
import HandS.Exc
import HandS.ExcOwn
import HandS.TryOnly
import HandS.WordsExc
import HandS.CallRecv
import HandS.SetKeys
import HandS.Flow
import HandS.NoneIn
import HandS.More
import HandS.SetFor
import HandS.HeadHook1
import HandS.HeadHook2
import HandS.HeadEnd
import HandS.HeadWalk
import KE.KDictPairs
import KE.SortData
import PyProof.ReprRoads
import KE.KDictDisplayH
import KE.GoesMore
import HandS.Zip
import KE.KDictZip
import HandS.ExcInit
import HandS.ExcField
import HandS.FStr
import KE.KExcSuper
import KE.KExcIs
import HandS.IsInst
import KE.KRevSl
import HandS.ListEq
import HandS.EndTab
import HandS.HeadHook4
import KE.KNestM
import HandS.Head2
import PySem.Challenge.RW_stopsheld_k00_words_exact
set_option Elab.async false
set_option linter.all false
set_option maxRecDepth 100000
set_option maxHeartbeats 4000000
/-! any, all of a generator expression over any iterator, the element of any form -/
namespace Co
open PySem PySem.Spec PyProof.Rows L2 GxR GenW
/-- the around of the generator's frame, woken by any's loop -/
abbrev gnA (A : Around) (env : PySem.Env) : Around := A.in1.in1.deeper env
/-- the context of the generator's code -/
abbrev gnX (X : Cx) (s : Shared) (H : Hp) (env : PySem.Env) (fp : List Addr) (pn : List (Addr × Obj)) : Cx :=
  { X with A := gnA X.A env, s_0 := s, H_0 := H, env := env, outer := X.stack, stack := env :: X.stack, ex := fp, fn := fun _ => false, pn := pn, xe := fun _ _ => False }
abbrev gnE (X : Cx) (scope : Scope) (C : Addr) (code : Value) : PySem.Env := genEnv scope (cloFrom X.env.cells scope.names []) C code builtinsNs X.env
section
variable {X : Cx} {pins : List (Addr × Obj)} {σ : L2.St} {H : Hp} {s : Shared}
theorem gen_start {scope : Scope} {own : List (Str × Nat)} {fp : List Addr} {code : Value} {h' : Heap} {tk : Nat} {it : Value} (I : Inv X pins σ H s) (ok : BlkOk X.N X.env.scope scope own) (hN : X.N.Nodup) (hnc : ∀ y ∈ scope.names, y.2 ≠ .cell)
    (hfp : ∀ b ∈ fp, FpOk X pins H b ∧ b < s.heap.objs.size) (hns : h'.Ns s.heap.objs.size (fun y => if y = ".0" then some it else none)) (hk : ∀ b o, s.heap.get? b = some o → h'.get? b = some o) :
    Inv (gnX X s H (gnE X scope s.heap.objs.size code) fp []) [] (wipe σ (own.map (·.2))) H { s with heap := h', toks := tk } := by
  have hfree : ∀ y ∈ scope.names, y.2 = .free → ∃ c, X.env.cells.lookup y.1 = some c := fun y hy e => by
    rcases ok.free y hy e with k | k
    · exact I.ok.has _ (.inl k)
    · exact I.ok.has _ (.inr k)
  generalize hcenv : gnE X scope s.heap.objs.size code = cenv
  have hL : cenv.locals = s.heap.objs.size := by rw [← hcenv]; rfl
  have hcl : cenv.cells = cloFrom X.env.cells scope.names [] := by rw [← hcenv]; rfl
  have hsc : cenv.scope = scope := by rw [← hcenv]; rfl
  have hfr : cenv.frame = some cenv.locals := by rw [← hcenv]; rfl
  have mem : ∀ {y c}, cenv.cells.lookup y = some c → X.env.cells.lookup y = some c ∧ c < s.heap.objs.size := fun {y c} e => by
    rw [hcl] at e
    rcases cloFrom_mem (PySem.mem_of_lookup e) with hm | ⟨h1, rfl⟩
    · cases hm
    · obtain ⟨c, hc⟩ := hfree _ h1 rfl
      rw [hc]
      obtain ⟨w, z⟩ := I.cell _ _ hc
      exact ⟨rfl, z.lt⟩
  have look : ∀ {y}, scope.names.lookup y = some .free → ∃ c, cenv.cells.lookup y = some c ∧ X.env.cells.lookup y = some c := fun {y} hl => by
    have hy : (y, NameKind.free) ∈ scope.names := PySem.mem_of_lookup hl
    obtain ⟨c', e'⟩ := mem_lookup (cloFrom_has (cells := X.env.cells) (acc := []) hy)
    rw [← hcl] at e'
    exact ⟨c', e', (mem e').1⟩
  have okB : (gnX X s H cenv fp []).Ok := by
    refine ⟨I.ok.mod, by show cenv.scope.kind = _; rw [hsc]; exact ok.kind, by show cenv.globals = _; rw [← hcenv]; exact I.ok.glob, by show cenv.builtins = _; rw [← hcenv]; rfl, by show s.heap.objs.size ≤ cenv.locals; rw [hL]; exact Nat.le_refl _,
      fun y z c e1 e2 => I.ok.inj y z c (mem e1).1 (mem e2).1, fun y hy => ?_, fun y c z e => (nomatch z), I.ok.hd, Around.frames_deeper I.ok.frames, .inr ⟨rfl, hfr⟩, fun b hb => ⟨?_, fun y c e z => ?_⟩, I.bs, Nat.le_trans I.ok.bsz I.sz, fun b o e hb => ?_, fun b hb z => ?_, I.stack, I.stkFree⟩
    · show ∃ c, cenv.cells.lookup y = some c
      have hy : cenv.scope.names.lookup y = some .cell ∨ cenv.scope.names.lookup y = some .free := hy
      rw [hsc] at hy
      rcases hy with hy | hy
      · exact absurd rfl (hnc _ (PySem.mem_of_lookup hy))
      · obtain ⟨c, h1, _⟩ := look hy
        exact ⟨c, h1⟩
    · show b ≠ cenv.locals
      rw [hL]; exact Nat.ne_of_lt (hfp b hb).2
    · exact (hfp b hb).1.2.2.2.2.1 y c (mem e).1 z
    · rcases (hfp b hb).1.2.2.2.1 with z | z
      · exact I.ok.noex b o e z
      · exact absurd (Nat.lt_of_lt_of_le (Heap.lt_size e) (Nat.le_trans I.ok.bsz z)) (Nat.lt_irrefl _)
    · rcases List.mem_cons.mp (I.stkSub b z) with z | z
      · exact (hfp b hb).1.2.1 z
      · exact (hfp b hb).1.2.2.1 z
  refine ⟨okB, rfl, I.bare, Un.kept hk, ⟨_, by show Heap.Ns _ cenv.locals _; rw [hL]; exact hns, fun i y av e1 e2 e3 => ?_⟩, fun y c e => ?_, ?_, fun y c e => I.freeC y c (mem e).1, fun p hp => absurd (show p ∈ ([] : List (Addr × Obj)) ++ [] from hp) (by simp), I.hok.kept hk, by rw [wipe_length]; exact I.len⟩
  · obtain ⟨e2, hne⟩ := wipe_some e2
    have no : ∀ k, scope.names.lookup y = some k → ¬ (k = .local ∨ k = .cell) := fun k e hh => by
      rcases ok.own _ (PySem.mem_of_lookup e) hh with e' | e'
      · obtain ⟨p, hp, hpy⟩ := List.mem_map.mp e'
        have e3 := ok.ix p hp
        have : p.1 = y := hpy
        rw [this] at e3
        exact hne (List.mem_map.mpr ⟨p, hp, nodup_ix hN e3 e1⟩)
      · exact e' (List.mem_of_getElem? e1)
    have e3 : Vis cenv.scope y := e3
    unfold Vis at e3
    rw [hsc] at e3
    have hf : scope.names.lookup y = some .free := by
      rcases e3 with e3 | e3 | e3
      · exact absurd (.inl rfl) (no _ e3)
      · exact absurd (.inr rfl) (no _ e3)
      · exact e3
    obtain ⟨m, hn, hl⟩ := I.loc
    have hvis : Vis X.env.scope y := (ok.free _ (PySem.mem_of_lookup hf) rfl).elim (fun k => .inr (.inl k)) (fun k => .inr (.inr k))
    obtain ⟨w, r, q⟩ := hl i y av e1 e2 hvis
    refine ⟨w, r, .inr ⟨.inr (by show cenv.scope.names.lookup y = _; rw [hsc]; exact hf), ?_⟩⟩
    obtain ⟨c, h1, h2⟩ := look hf
    rcases q with ⟨k, _⟩ | ⟨_, c', e', z⟩
    · have k : X.env.scope.names.lookup y = some .local := k
      rcases ok.free _ (PySem.mem_of_lookup hf) rfl with k' | k' <;> rw [show X.env.scope.names.lookup y = _ from k'] at k <;> cases k
    · rw [h2] at e'; cases e'
      exact ⟨c, h1, z.keeps hk⟩
  · obtain ⟨w, z⟩ := I.cell y c (mem e).1
    exact ⟨w, z.keeps hk⟩
  · show H cenv.locals = none
    rw [hL]; exact I.hok.fresh (Nat.le_refl _)
end
/-! ### the generator's run -/
/-- the answer is known -/
def GFin (X : Cx) (s3 : Shared) (H3 : Hp) (fp : List Addr) (Q : VK) (k : Bool) (s : Shared) : Prop :=
  ∃ H', s.os = s3.os ∧ AllBare s.gens ∧ Un (frs X.stack) fp H3 H' s3.heap s.heap ∧ HOk X.prog X.w H' s.heap ∧ Q (.bl k) H'
def GnY (X : Cx) (s3 : Shared) (H3 : Hp) (fp : List Addr) (Q : VK) (b : Bool) (a : Addr) (g : Nat) : Protocol := fun _ _ v s1 kap =>
  ∃ k : Bool, v = .bool k ∧ s1.os = s3.os ∧ AllBare s1.gens ∧ s1.heap.NoLimit ∧ s1.heap.IsGen a g ∧ (if k = b then GFin X s3 H3 fp Q b s1 else ∀ s' : Shared, s'.heap = s1.heap → s'.os = s1.os → AllBare s'.gens → kap (.send .none) s')
abbrev GnR (X : Cx) (s3 : Shared) (H3 : Hp) (fp : List Addr) (Q : VK) (b : Bool) : GenEnd := fun n s₀ r s1 => r = .ok .next ∧ GFin X s3 H3 fp Q (!b) s1
theorem GFin.later {X : Cx} {s3 s s' : Shared} {H3 : Hp} {fp : List Addr} {Q : VK} {k : Bool} (h : GFin X s3 H3 fp Q k s) (ho : s'.os = s.os) (hb : AllBare s'.gens) (hk : ∀ b o, s.heap.get? b = some o → s'.heap.get? b = some o) : GFin X s3 H3 fp Q k s' := by
  obtain ⟨H', h1, h2, h3, h4, h5⟩ := h
  exact ⟨H', ho.trans h1, hb, h3.trans (Un.kept hk), h4.kept hk, h5⟩
/-- what a turn asks -/
abbrev GW (b : Bool) (J : It) (g : TG) (te : TE) (σw : L2.St) (Q : VK) (W : Nat → Nat → Hp → Prop) : Prop := ∀ i m H, W i m H → (J.stop i H ∧ Q (.bl (!b)) H) ∨ (J.go i H ∧ ∃ Nx : Hp → Prop, (∀ H', Nx H' → ∃ m', m' < m ∧ W (i + 1) m' H') ∧
  ∀ x H', J.yld i H x H' → g x σw H' fun σ2 H2 => (∀ (j : Nat) v, σw[j]? = some (some v) → σ2[j]? = some (some v)) ∧ σ2.length = σw.length ∧ te σ2 H2 fun y H3 => ∃ k : Bool, y = .bl k ∧ if k = b then Q (.bl b) H3 else Nx H3)
section
variable {X : Cx}
theorem over_gen {A : Around} {elt tg iter : Expr} {scope : Scope} {pos : Pos} {it acc : Value} {env : PySem.Env} : A.over (.compLoop (.GeneratorExp elt [⟨tg, iter, [], 0⟩] scope pos) 0 it acc env) [] = A.deeper env := by
  first
    | rfl
    | (obtain ⟨hd, d, fr, gs, u⟩ := A; simp [Around.over, Around.deeper, marksOver, frameCount, unitsOf, envsOf, guardsOf, pushEnvs, pushGuards, Code.envs, Code.env?, Code.isFrame, Code.guards, Code.isGuard, Code.weight, Code.frames, Code.isCreation, Code.isCaller, Code.cUnits])
variable {s3 : Shared} {H3 : Hp} {cenv : PySem.Env} {fp : List Addr} {a : Addr} {gn : Nat} {go : Obj} {Q : VK} {b : Bool} {elt tg iter : Expr} {scope : Scope} {pos : Pos} {it : Addr} {tn : Nat → Heap → Prop} {J : It} {g : TG} {te : TE} {σw : L2.St} {W : Nat → Nat → Hp → Prop}
theorem seg_gloop (hc : X.calm = true) (hco : cenv.scope.isCoroutine = false) (hgo : ∀ h : Heap, h.get? a = some go → h.IsGen a gn) (T : Turn X.prog X.w X.K tg J fp it tn) (pg : PG (gnX X s3 H3 cenv fp [(a, go)]) tg g) (pe : PE (gnX X s3 H3 cenv fp [(a, go)]) elt te) (turn : GW b J g te σw Q W)
    (hafp : ∀ b ∈ fp, b ≠ a) :
    ∀ (m n i : Nat) (s₀ s : Shared) (H' : Hp), m < n → L2.Inv (gnX X s3 H3 cenv fp [(a, go)]) [] σw H' s → tn i s.heap → (∀ b ∈ fp, H' b = none) → W i m H' →
      Seg (model X.prog X.w) X.A.in1.in1 (GnR X s3 H3 fp Q b) (GnY X s3 H3 fp Q b a gn) n s₀ (.compLoop (.GeneratorExp elt [⟨tg, iter, [], 0⟩] scope pos) 0 (.ref it) .none cenv) ((model X.prog X.w).den (.compLoop (.GeneratorExp elt [⟨tg, iter, [], 0⟩] scope pos) 0 (.ref it) .none cenv)) [] s := by
  have stat : ∀ {σ' : L2.St} {H' : Hp} {s' : Shared}, L2.Inv (gnX X s3 H3 cenv fp [(a, go)]) [] σ' H' s' → (∀ b ∈ fp, H' b = none) → ∀ b ∈ fp, FpOk (gnX X s3 H3 cenv fp [(a, go)]) [] H' b := fun {σ' H' s'} I' hn b hb =>
    ⟨hn b hb, (I'.ok.exf b hb).1, I'.ok.exfs b hb, .inl hb, fun x c e => (I'.ok.exf b hb).2 x c e, fun p hp => by
      have hp : p ∈ [(a, go)] ++ [] := hp
      rw [List.append_nil, List.mem_singleton] at hp
      rw [hp]
      exact fun z => hafp b hb z.symm⟩
  intro m
  induction m using Nat.strongRecOn with
  | _ m ih =>
    intro n i s₀ s H' hmn I st hn w
    obtain ⟨n, rfl⟩ : ∃ n', n = n' + 1 := ⟨n - 1, by omega⟩
    show Seg _ X.A.in1.in1 _ _ _ s₀ _ ((compTurn (.GeneratorExp elt [⟨tg, iter, [], 0⟩] scope pos) 0 (.ref it) .none cenv).onRaise (leaving cenv)) [] s
    rw [compTurn_gen, Sem.onRaise_eq_wrap]
    refine seg_bind_wrap (wpAny_standAt ?_)
    have fin : ∀ {σ' : L2.St} {H5 : Hp} {s5 : Shared} {k : Bool} {pl : List (Addr × Obj)}, L2.Inv (gnX X s3 H3 cenv fp [(a, go)]) pl σ' H5 s5 → Q (.bl k) H5 → GFin X s3 H3 fp Q k s5 := fun {σ' H5 s5 k pl} I5 q => ⟨H5, I5.os, I5.bare, I5.base, I5.hok, q⟩
    rcases turn i m H' w with ⟨stop, qq⟩ | ⟨go', Nx, hNx, step⟩
    · have td := T.done (gnX X s3 H3 cenv fp [(a, go)]) rfl rfl rfl hc i [] s _ H' (fun _ _ => False) I (stat I hn) st stop
      refine seg_bind_wrap ?_
      rw [over_gen]
      refine thnF td fun r s6 ⟨hr, I6⟩ => ?_
      subst hr
      exact seg_end (.ok .next) ⟨rfl, fin I6 qq⟩
    · have ti := T.item (gnX X s3 H3 cenv fp [(a, go)]) rfl rfl rfl hc i [] s _ H' (fun _ _ => False) I (stat I hn) st go'
      refine seg_bind_wrap ?_
      rw [over_gen]
      refine thnF ti fun r s6 ⟨u, hr, h6⟩ => ?_
      subst hr
      refine seg_bind_wrap ?_
      rw [over_gen]
      refine thnF h6 fun _ s7 ⟨x, H7, I7, r7, y7, st7, n7⟩ => ?_
      have I7' := I7.pinned (stat I7 n7) (T.obj _ _ st7)
      refine seg_bind_wrap ?_
      rw [over_gen]
      refine thnF (pg.run _ s7 _ H7 x u _ I7' r7 (step x H7 y7)) fun _ s8 ⟨σ8, H8, I8, hw8, hl8, q8⟩ => ?_
      refine seg_bind_wrap (wpAny_tests_nil ?_)
      simp only [if_true]
      have hy : ∀ v, yieldOut cenv v = yieldValue v := fun v => by simp only [yieldOut, hco, Bool.false_eq_true, if_false]
      simp only [hy]
      rw [Sem.bind_eq_wrap', Sem.bind_eq_wrap', Sem.wrap_wrap, Sem.wrap_wrap]
      refine seg_wrap ?_
      rw [over_gen]
      refine thnF (pe.run _ s8 σ8 H8 _ I8 q8) fun z s9 ⟨yv, H9, I9, r9, k, hk, q9⟩ => ?_
      subst hk
      obtain rfl : z = Value.bool k := r9
      have pa := (I9.pin (a, go) (List.mem_append_left _ (List.mem_singleton.mpr rfl))).1
      refine seg_at (seg_yield rfl rfl rfl ⟨k, rfl, I9.os, I9.bare, I9.nolimit, hgo _ pa, ?_⟩)
      by_cases hkb : k = b
      · rw [if_pos hkb] at q9 ⊢
        exact fin I9 q9
      · rw [if_neg hkb] at q9 ⊢
        intro s' hh ho hb
        obtain ⟨m', hm', w'⟩ := hNx H9 q9
        have I10 := I9.call' (s' := s') (ch := []) ho (H' := H9) (by rw [hh]; exact Un.refl) (by rw [hh]; exact I9.hok) hb (fun _ z => nomatch z)
        have pin' : ∀ b ∈ fp, ∀ o, s7.heap.get? b = some o → s'.heap.get? b = some o ∧ H9 b = none := fun b hb o e =>
          let z := I10.pin (b, o) (List.mem_append_right _ (List.mem_append_right _ (mem_pinsAt hb e)))
          ⟨z.1, z.2.1⟩
        refine seg_again rfl (ih m' hm' n (i + 1) s' s' H9 (by omega) ((I10.unpinned (pins := [])).weak hl8.symm fun j v e => hw8 j v e) (T.keep _ _ _ st7 fun b hb o e => (pin' b hb o e).1) (fun b hb => ?_) w')
        obtain ⟨o, e, _⟩ := T.obj _ _ st7 b hb
        exact (pin' b hb o e).2
theorem seg_gstart {n : Nat} {s₀ s : Shared} (st : tn 0 s.heap) (T : Turn X.prog X.w X.K tg J fp it tn)
    (loop : Seg (model X.prog X.w) X.A.in1.in1 (GnR X s3 H3 fp Q b) (GnY X s3 H3 fp Q b a gn) n s₀ (.compLoop (.GeneratorExp elt [⟨tg, iter, [], 0⟩] scope pos) 0 (.ref it) .none cenv) ((model X.prog X.w).den (.compLoop (.GeneratorExp elt [⟨tg, iter, [], 0⟩] scope pos) 0 (.ref it) .none cenv)) [] s) :
    Seg (model X.prog X.w) X.A.in1.in1 (GnR X s3 H3 fp Q b) (GnY X s3 H3 fp Q b a gn) n s₀ (.compStart (.GeneratorExp elt [⟨tg, iter, [], 0⟩] scope pos) 0 (.ref it) .none cenv) ((model X.prog X.w).den (.compStart (.GeneratorExp elt [⟨tg, iter, [], 0⟩] scope pos) 0 (.ref it) .none cenv)) [] s := by
  show Seg _ X.A.in1.in1 _ _ _ s₀ _ ((compStart (.GeneratorExp elt [⟨tg, iter, [], 0⟩] scope pos) 0 (.ref it) .none cenv).onRaise (leaving cenv)) [] s
  unfold compStart
  rw [Sem.onRaise_eq_wrap]
  show Seg _ X.A.in1.in1 _ _ _ s₀ _ ((ask >>= _).wrap _ _ _ _) [] s
  refine seg_bind_wrap (wpAny_askSetting ?_)
  split
  · exact seg_again rfl loop
  · first
      | exact seg_bind_wrap (wpAny_rule (seg_bind_wrap (wpAny_standAt (seg_bind_wrap (T.self _ 0 s _ _ st (seg_again rfl loop))))))
      | (refine seg_bind_wrap (wpAny_rule ?_); show Seg _ X.A.in1.in1 _ _ _ s₀ _ ((standAt iter.pos >>= _).wrap _ _ _ _) [] s; exact seg_bind_wrap (wpAny_standAt (seg_bind_wrap (T.self _ 0 s _ _ st (seg_again rfl loop)))))
end
/-! ### the consumers -/
section
variable {X : Cx} {s3 : Shared} {H3 : Hp} {fp : List Addr} {a : Addr} {gn : Nat} {Q : VK} {R : Result → Shared → Prop}
/-- a generator that may be woken -/
abbrev GAt (X : Cx) (s3 : Shared) (H3 : Hp) (fp : List Addr) (Q : VK) (b : Bool) (a : Addr) (gn n : Nat) (s : Shared) : Prop :=
  s.heap.IsGen a gn ∧ s.heap.NoLimit ∧ s.os = s3.os ∧ AllBare s.gens ∧ ∃ gs, s.gens[gn]? = some gs ∧ gs.Goes (model X.prog X.w) X.A.in1.in1 (GnR X s3 H3 fp Q b) (GnY X s3 H3 fp Q b a gn) n (.send .none) (s.setGen gn .running)
theorem next_g {b : Bool} {n : Nat} {s : Shared} {Q' : Option Value → Shared → Prop} {E : Value → Shared → Prop} (hh : X.A.handled = none) (hd : X.A.depth < recursionLimit) (h : GAt X s3 H3 fp Q b a gn n s)
    (hS : ∀ k s', GFin X s3 H3 fp Q k s' → k = b → Q' (some (.bool k)) s') (hN : ∀ k s', k ≠ b → (∃ m, m < n ∧ GAt X s3 H3 fp Q b a gn m s') → Q' (some (.bool k)) s') (hE : ∀ s', GFin X s3 H3 fp Q (!b) s' → Q' none s') :
    wpAny (model X.prog X.w) X.A.in1 (pyNext (.ref a)) Q' E s := by
  obtain ⟨hg, hl, hos, hba, gs, hgs, hgo⟩ := h
  have hgl : gn < s.gens.size := (Array.getElem?_eq_some_iff.mp hgs).1
  refine wpAny_gsz (n := gn + 1) hgl (wpAny_pyNext_genexpQ (A := X.A.in1) (P := fun n s₀ s₁ => GFin X s3 H3 fp Q (!b) s₁) hh hl hd hg hgs hgo (fun v s₁ gs' hbare hv => ?_) (fun s₁ hp h' hk => ?_))
  · intro hsz
    obtain ⟨k, rfl, os1, hb1, hl1, hg1, hk⟩ := hv
    have hb2 : AllBare (s₁.setGen gn gs').gens := allBare_setGen hb1 hbare
    by_cases hkb : k = b
    · rw [if_pos hkb] at hk
      refine hS k _ ?_ hkb
      rw [hkb]
      exact hk.later rfl hb2 fun _ _ e => e
    · rw [if_neg hkb] at hk
      refine hN k _ hkb ?_
      have hz := hk ((s₁.setGen gn gs').setGen gn .running) rfl rfl (allBare_setGen hb2 rfl)
      cases n with
      | zero => exact hz.elim
      | succ m =>
        refine ⟨m, Nat.lt_succ_self m, hg1, hl1, os1, hb2, gs', setGen_at ?_, hz⟩
        have q : (s₁.setGen gn gs').gens.size = s₁.gens.size := setGen_size _ _ _
        have hsz' : gn + 1 ≤ (s₁.setGen gn gs').gens.size := hsz
        omega
  · intro _
    exact hE _ (hp.later rfl (allBare_setGen hp.choose_spec.2.1 rfl) hk)
theorem any_loop (hh : X.A.handled = none) (hd : X.A.depth < recursionLimit) (hR : ∀ k s', GFin X s3 H3 fp Q k s' → R (.ok (.ret (.bool k))) s') :
    ∀ (n : Nat) (s : Shared), GAt X s3 H3 fp Q true a gn n s → codeAny (model X.prog X.w) X.A (.builtin "any.loop" ⟨[.ref a], []⟩) R s := by
  intro n
  induction n using Nat.strongRecOn with
  | _ n ih =>
    intro s h
    refine codeAny_builtin F.entry_any_loop ?_
    rw [Around.under_plainId F.plain_any_loop _]
    show wpAny _ X.A.in1 (pyNext (.ref a) >>= _) _ _ s
    refine wpAny_bind (next_g hh hd h (fun k s' hf hk => ?_) (fun k s' hk hm => ?_) fun s' hf => ?_)
    · subst hk
      refine wpAny_bind (wpAny_holding (wpAny_truthy_bool ?_))
      refine wpAny_bind (wpAny_letGo ?_)
      simp only [if_true]
      exact wpAny_bind (wpAny_rule (wpAny_pure (hR true s' hf)))
    · obtain ⟨m, hm, h'⟩ := hm
      obtain rfl : k = false := by cases k <;> first | rfl | exact absurd rfl hk
      refine wpAny_bind (wpAny_holding (wpAny_truthy_bool ?_))
      refine wpAny_bind (wpAny_letGo ?_)
      simp only [Bool.false_eq_true, if_false]
      exact wpAny_pure ⟨plainId_quiet F.plain_any_loop _, ih m hm _ h'⟩
    · exact wpAny_bind (wpAny_rule (wpAny_pure (hR false s' hf)))
theorem all_loop (hh : X.A.handled = none) (hd : X.A.depth < recursionLimit) (hR : ∀ k s', GFin X s3 H3 fp Q k s' → R (.ok (.ret (.bool k))) s') :
    ∀ (n : Nat) (s : Shared), GAt X s3 H3 fp Q false a gn n s → codeAny (model X.prog X.w) X.A (.builtin "all.loop" ⟨[.ref a], []⟩) R s := by
  intro n
  induction n using Nat.strongRecOn with
  | _ n ih =>
    intro s h
    refine codeAny_builtin F.entry_all_loop ?_
    rw [Around.under_plainId F.plain_all_loop _]
    show wpAny _ X.A.in1 (pyNext (.ref a) >>= _) _ _ s
    refine wpAny_bind (next_g hh hd h (fun k s' hf hk => ?_) (fun k s' hk hm => ?_) fun s' hf => ?_)
    · subst hk
      refine wpAny_bind (wpAny_holding (wpAny_truthy_bool ?_))
      refine wpAny_bind (wpAny_letGo ?_)
      simp only [Bool.false_eq_true, if_false]
      exact wpAny_bind (wpAny_rule (wpAny_pure (hR false s' hf)))
    · obtain ⟨m, hm, h'⟩ := hm
      obtain rfl : k = true := by cases k <;> first | rfl | exact absurd rfl hk
      refine wpAny_bind (wpAny_holding (wpAny_truthy_bool ?_))
      refine wpAny_bind (wpAny_letGo ?_)
      simp only [if_true]
      exact wpAny_pure ⟨plainId_quiet F.plain_all_loop _, ih m hm _ h'⟩
    · exact wpAny_bind (wpAny_rule (wpAny_pure (hR true s' hf)))
end
/-! ### the rule -/
theorem among_other {pos p' : Pos} {c : Value} (l : List Value) (h : TriplesOk l) (hp : (p'.line, p'.col) ≠ (pos.line, pos.col)) : codeAmong p' (l ++ [rawInt pos.line, rawInt pos.col, c]) = codeAmong p' l := by
  fun_induction TriplesOk l with
  | case1 =>
    simp only [List.nil_append, rawInt, codeAmong]
    split
    · rename_i q
      exfalso
      apply hp
      simp only [Bool.and_eq_true, beq_iff_eq] at q
      obtain ⟨q1, q2⟩ := q
      rw [Prod.mk.injEq]
      omega
    · rfl
  | case2 a t b u x rest ih =>
    simp only [List.cons_append, codeAmong]
    split
    · rfl
    · exact ih h
  | case3 l h1 h2 => exact h.elim
/-- the table at P has grown by what stands at pos, or not at all -/
def TabTo (P : Addr) (pos : Pos) (H H' : Hp) : Prop := (∃ ps ps' : Array Value, H P = some (.tbl ps) ∧ H' P = some (.tbl ps') ∧ TriplesOk ps'.toList ∧ ∀ p : Pos, (p.line, p.col) ≠ (pos.line, pos.col) → codeAmong p ps'.toList = codeAmong p ps.toList) ∧ ∀ b, b ≠ P → H' b = H b
def tGn (b : Bool) (wi : TI) (g : TG) (te : TE) (vs : List Nat) (P : Addr) (gpos : Pos) : TE := fun σ H Q => wi σ H fun J H1 => TabG H1 P ∧ ∀ H2, TabTo P gpos H1 H2 → ∃ W : Nat → Nat → Hp → Prop, (∃ m, W 0 m H2) ∧ GW b J g te (wipe σ vs) Q W
def gnm (b : Bool) : Str := if b then "any" else "all"
section
variable {X : Cx} {pins : List (Addr × Obj)} {σ : L2.St} {H : Hp} {s : Shared}
theorem gen_pin {s3 : Shared} {H3 : Hp} {env : PySem.Env} {fp : List Addr} {pn : List (Addr × Obj)} {s1 : Shared} (I : L2.Inv (gnX X s3 H3 env fp []) [] σ H s1)
    (h : ∀ p ∈ pn ++ [], s1.heap.get? p.1 = some p.2 ∧ H p.1 = none ∧ p.1 ≠ env.locals ∧ p.1 ∉ frs X.stack ∧ ∀ v, p.2.data ≠ .cell v) : L2.Inv (gnX X s3 H3 env fp pn) [] σ H s1 :=
  ⟨⟨I.ok.mod, I.ok.kind, I.ok.glob, I.ok.blt, I.ok.above, I.ok.inj, I.ok.has, I.ok.cab, I.ok.hd, I.ok.frames, I.ok.stk, I.ok.exf, I.ok.bs, I.ok.bsz, I.ok.noex, I.ok.exfs, I.ok.funs, I.ok.frf⟩, I.os, I.bare, I.base, I.loc, I.cell, I.free, I.freeC, h, I.hok, I.len⟩
/-- the generator is made -/
theorem gen_make {b : Bool} {c P : Addr} {elt tg iter : Expr} {scope : Scope} {own : List (Str × Nat)} {gpos : Pos} {wi : TI} {g : TG} {te : TE} {k : Nat} {Q : VK} {Q' : Value → Shared → Prop}
    (hr : Room k X.A) (hc : X.calm = true) (hN : X.N.Nodup) (TB : TabB X.base X.mg c P) (hcode : X.env.code = .ref c) (ok : BlkOk X.N X.env.scope scope own) (hnc : ∀ y ∈ scope.names, y.2 ≠ .cell) (h0 : scope.names.lookup (".0" : Str) = some NameKind.local) (hco : scope.isCoroutine = false)
    (hs : ∀ x, genFold iter X.env x = pure x) (hi : PI X tg iter wi) (hpg : ∀ s H C code fp pn, PG (gnX X s H (gnE X scope C code) fp pn) tg g) (hpe : ∀ s H C code fp pn, PE (gnX X s H (gnE X scope C code) fp pn) elt te)
    (I : L2.Inv X pins σ H s) (h : tGn b wi g te (own.map (·.2)) P gpos σ H Q)
    (hQ : ∀ s3 H3 fp a gn n s5, GAt X s3 H3 fp Q b a gn n s5 → (∀ k s', GFin X s3 H3 fp Q k s' → EP X pins σ Q (.bool k) s') → Q' (.ref a) s5) :
    wpAny (model X.prog X.w) X.A (eval (.GeneratorExp elt [⟨tg, iter, [], 0⟩] scope gpos) X.env) Q' X.xe s := by
  have hfree : ∀ y ∈ scope.names, y.2 = .free → ∃ c, X.env.cells.lookup y.1 = some c := fun y hy e => by
    rcases ok.free y hy e with k | k
    · exact I.ok.has _ (.inl k)
    · exact I.ok.has _ (.inr k)
  have hdp : X.A.depth < recursionLimit := by have := hr.dp; omega
  refine wpAny_GeneratorExp_make hco (closure_ok hfree) hnc h0 ok.kind hdp ?_ hs
  refine thn (hi.run pins s σ H _ I h) fun xv s1 h1 => thn h1 fun itv s2 h2 => ?_
  obtain ⟨it, fp, tn, J, H2, rfl, I2, T, st2, f2, ⟨ps, hP, ht⟩, q⟩ := h2
  have hPs : s2.heap.get? P = some { cls := .none, data := .fields ps } := I2.hok P _ hP
  have cd : PySem.W.CodeHd s2.heap c P := TB.code.keeps fun b u e => I2.bk b u e
  have sz : ∀ b ∈ fp, b < s2.heap.objs.size := fun b hb => by
    obtain ⟨o, e, _⟩ := T.obj _ _ st2 b hb
    exact Heap.lt_size e
  have fpP : ∀ b ∈ fp, b ≠ P := fun b hb z => by
    have := (f2 b hb).1
    rw [z, hP] at this
    cases this
  refine ⟨I2.nolimit, ?_⟩
  have cont : ∀ (code : Value) (h3 : Heap) (tk : Nat) (ps' : Array Value), Heap.ExtBut P s2.heap h3 → s2.heap.objs.size ≤ h3.objs.size → h3.get? P = some { cls := .none, data := .fields ps' } → (∃ more, ps' = ps ++ more) → TriplesOk ps'.toList → (∀ p : Pos, (p.line, p.col) ≠ (gpos.line, gpos.col) → codeAmong p ps'.toList = codeAmong p ps.toList) →
      wpAny (model X.prog X.w) X.A (builtinsFor X.env.globals X.env.builtins) (fun bi s₄ =>
        ∀ h', h'.Ns s₄.heap.objs.size (fun y => if y = ".0" then some (.ref it) else none) → Heap.SameBut s₄.heap.objs.size (s₄.heap.push { cls := .type "frame", data := .dict #[] }) h' →
          Q' (.ref h'.objs.size) { s₄ with
            gens := s₄.gens.push (.fresh (.compStart (.GeneratorExp elt [⟨tg, iter, [], 0⟩] scope gpos) 0 (.ref it) .none (genEnv scope (cloFrom X.env.cells scope.names []) s₄.heap.objs.size code bi X.env))),
            toks := s₄.toks + 1 + 1 + 1,
            heap := h'.push { cls := .type "generator", data := .fields #[.int s₄.gens.size 0, .str "<genexpr>" (s₄.toks + 1), .str (X.env.qual ++ "<genexpr>") (s₄.toks + 1 + 1)] } }) X.xe { s2 with heap := h3, toks := tk } := by
    intro code h3 tk ps' hx hsz hP3 hmore ht3 hoth
    obtain ⟨bm, ob, e1, e2, e3, e4, e5, e6, e7, e8⟩ := TB.bm
    have keep3 : ∀ b u, b ≠ P → s2.heap.get? b = some u → h3.get? b = some u := fun b u hb e => hx b u hb e
    refine wpAny_builtinsFor (m := X.mg) (by rw [I2.ok.glob]; exact (I2.mod.glob.keeps I2.bk).extBut hx TB.gP) e1 e2 (keep3 _ _ e4 (I2.bk _ _ e5)) e6 e7 e8 ?_
    obtain ⟨more, rfl⟩ := hmore
    have I3 : L2.Inv X pins σ (upd H2 P (.tbl (ps ++ more))) { s2 with heap := h3, gens := s2.gens, drawn := s2.drawn, toks := tk } := inv_tab I2 hP keep3 hP3 I2.bare
    have tb : TabTo P gpos H2 (upd H2 P (.tbl (ps ++ more))) := ⟨⟨_, _, hP, upd_same, ht3, hoth⟩, fun b hb => upd_ne hb⟩
    obtain ⟨W, ⟨m0, w0⟩, turn⟩ := q _ tb
    generalize hs3 : ({ s2 with heap := h3, gens := s2.gens, drawn := s2.drawn, toks := tk } : Shared) = s3 at I3
    have hh3 : s3.heap = h3 := by rw [← hs3]
    generalize hH3 : upd H2 P (.tbl (ps ++ more)) = H3 at I3 tb w0 turn
    have f3 : ∀ b ∈ fp, FpOk X pins H3 b ∧ b < s3.heap.objs.size := fun b hb => by
      refine ⟨⟨?_, (f2 b hb).2⟩, by rw [hh3]; exact Nat.lt_of_lt_of_le (sz b hb) hsz⟩
      rw [← hH3, upd_ne (fpP b hb)]
      exact (f2 b hb).1
    have st3 : tn 0 s3.heap := T.keep _ _ _ st2 fun b hb o e => by rw [hh3]; exact keep3 b o (fpP b hb) e
    intro h' hn' hs'
    have hsz' : h'.objs.size = s3.heap.objs.size + 1 := by rw [hs'.1, Heap.size_push]
    have keep' : ∀ b o, s3.heap.get? b = some o → h'.get? b = some o := fun b o e => hs'.extBut b o (Nat.ne_of_lt (Heap.lt_size e)) (Heap.get?_push_of_some _ e)
    have I4 : L2.Inv (gnX X s3 H3 (gnE X scope s3.heap.objs.size code) fp []) [] (wipe σ (own.map (·.2))) H3 { s3 with heap := h', toks := s3.toks } := gen_start (it := .ref it) I3 ok hN hnc f3 hn' keep'
    generalize hgo : ({ cls := .type "generator", data := .fields #[.int s3.gens.size 0, .str "<genexpr>" (s3.toks + 1), .str (X.env.qual ++ "<genexpr>") (s3.toks + 1 + 1)] } : Obj) = go
    have goc : go.cls = .type "generator" := by rw [← hgo]
    have god : go.data = .fields #[.int s3.gens.size 0, .str "<genexpr>" (s3.toks + 1), .str (X.env.qual ++ "<genexpr>") (s3.toks + 1 + 1)] := by rw [← hgo]
    have gos : go.slots = #[] := by rw [← hgo]
    have hgen : ∀ h : Heap, h.get? h'.objs.size = some go → h.IsGen h'.objs.size s3.gens.size := fun h e => ⟨go, _, _, e, goc, god, gos⟩
    have hpush : (h'.push go).get? h'.objs.size = some go := by rw [← hgo]; exact Heap.get?_push_size _ rfl
    generalize hcenv : gnE X scope s3.heap.objs.size code = cenv at I4
    have eE : genEnv scope (cloFrom X.env.cells scope.names []) s3.heap.objs.size code builtinsNs X.env = cenv := hcenv
    rw [eE]
    have hL : cenv.locals = s3.heap.objs.size := by rw [← hcenv]; rfl
    have hce : cenv.scope.isCoroutine = false := by rw [← hcenv]; exact hco
    generalize hs5 : ({ s3 with gens := s3.gens.push (.fresh (.compStart (.GeneratorExp elt [⟨tg, iter, [], 0⟩] scope gpos) 0 (.ref it) .none cenv)), toks := s3.toks + 1 + 1 + 1, heap := h'.push go } : Shared) = s5
    have h5 : s5.heap = h'.push go := by rw [← hs5]
    have o5 : s5.os = s3.os := by rw [← hs5]
    have g5 : s5.gens = s3.gens.push (.fresh (.compStart (.GeneratorExp elt [⟨tg, iter, [], 0⟩] scope gpos) 0 (.ref it) .none cenv)) := by rw [← hs5]
    have b5 : AllBare s5.gens := by rw [g5]; exact AllBare.push I3.bare rfl
    have kp5 : ∀ b o, h'.get? b = some o → s5.heap.get? b = some o := fun b o e => by rw [h5]; exact Heap.get?_push_of_some _ e
    have an : s3.heap.objs.size < h'.objs.size := by omega
    have young : H3 h'.objs.size = none ∧ h'.objs.size ≠ cenv.locals ∧ h'.objs.size ∉ frs X.stack := by
      refine ⟨I3.hok.fresh (Nat.le_of_lt an), by rw [hL]; omega, fun z => ?_⟩
      rcases List.mem_cons.mp (I3.stkSub _ z) with z | z
      · have := I3.lt
        rw [← z] at this
        exact absurd (Nat.lt_trans an this) (Nat.lt_irrefl _)
      · exact I3.nofs (Nat.le_of_lt an) z
    have I5 : ∀ s6 : Shared, s6.heap = s5.heap → s6.os = s5.os → AllBare s6.gens → L2.Inv (gnX X s3 H3 cenv fp [(h'.objs.size, go)]) [] (wipe σ (own.map (·.2))) H3 s6 := fun s6 q1 q2 q3 => by
      have I6 := I4.call' (s' := s6) (ch := []) (q2.trans o5) (H' := H3) (Un.kept fun b o e => by rw [q1]; exact kp5 b o e) (I4.hok.kept fun b o e => by rw [q1]; exact kp5 b o e) q3 (fun _ z => nomatch z)
      refine gen_pin I6 fun p hp => ?_
      rw [List.append_nil, List.mem_singleton] at hp
      subst hp
      exact ⟨by rw [q1, h5]; exact hpush, young.1, young.2.1, young.2.2, fun v z => by rw [god] at z; cases z⟩
    refine hQ s3 H3 fp h'.objs.size s3.gens.size (m0 + 1) s5 ⟨hgen _ (by rw [h5]; exact hpush), (I5 s5 rfl rfl b5).nolimit, o5, b5, .fresh (.compStart (.GeneratorExp elt [⟨tg, iter, [], 0⟩] scope gpos) 0 (.ref it) .none cenv), by rw [g5]; exact Array.getElem?_push_size .., rfl, ?_⟩ fun k s' hf => ?_
    · have st5 : tn 0 (s5.setGen s3.gens.size .running).heap := T.keep _ _ _ st3 fun b _ o e => kp5 b o (keep' b o e)
      have nfp : ∀ b ∈ fp, H3 b = none := fun b hb => (f3 b hb).1.1
      have pg : PG (gnX X s3 H3 cenv fp [(h'.objs.size, go)]) tg g := by rw [← hcenv]; exact hpg _ _ _ _ _ _
      have pe : PE (gnX X s3 H3 cenv fp [(h'.objs.size, go)]) elt te := by rw [← hcenv]; exact hpe _ _ _ _ _ _
      exact seg_gstart st5 T (seg_gloop hc hce hgen T pg pe turn (fun b hb z => absurd (Nat.lt_trans an (z ▸ (f3 b hb).2)) (Nat.lt_irrefl _)) m0 (m0 + 1) 0 _ _ H3 (Nat.lt_succ_self _) (I5 _ rfl rfl (allBare_setGen b5 rfl)) st5 nfp w0)
    · obtain ⟨H', k1, k2, k3, k4, k5⟩ := hf
      exact ⟨.bl k, H', I3.call' (ch := fp) k1 k3 k4 k2 fun b hb => ⟨(f3 b hb).1.2.2.2.1, (f3 b hb).1.2.1, (f3 b hb).1.2.2.2.2.1, (f3 b hb).1.2.2.2.2.2⟩, rfl, k5⟩
  cases hf : codeAmong gpos ps.toList with
  | none =>
    refine wpAny_genexprCodeX hcode (cd.code hPs ht) (cd.tab hPs) hf fun c' h' tk hx hge hlt hco' _ htab' _ => ?_
    obtain ⟨o1, vs, f1, tf, fl, tg', inF, tx, tt, op, _, _, _, _, _, _, _, _, _, htr, _⟩ := hco'
    exact cont _ h' tk _ hx (Nat.le_trans hge (Nat.le_of_lt hlt)) htab'.2 ⟨_, rfl⟩ htr fun p hp => by rw [show (ps ++ #[rawInt gpos.line, rawInt gpos.col, Value.ref c']).toList = ps.toList ++ [rawInt gpos.line, rawInt gpos.col, .ref c'] by simp]; exact among_other _ ht hp
  | some cv =>
    refine wpAny_genexprCode_hit hcode (cd.code hPs ht) hf ?_
    exact cont cv s2.heap s2.toks ps (Heap.ExtBut.refl _ _) (Nat.le_refl _) hPs ⟨#[], by simp⟩ ht fun _ _ => rfl
theorem pe_gen {b : Bool} {c P : Addr} {elt tg iter : Expr} {scope : Scope} {own : List (Str × Nat)} {gpos pos p : Pos} {wi : TI} {g : TG} {te : TE} {k : Nat}
    (hr : Room k X.A) (hc : X.calm = true) (hN : X.N.Nodup) (hg : Gl X (gnm b)) (hm : X.mg (gnm b) = none) (TB : TabB X.base X.mg c P) (hcode : X.env.code = .ref c) (ok : BlkOk X.N X.env.scope scope own) (hnc : ∀ y ∈ scope.names, y.2 ≠ .cell) (h0 : scope.names.lookup (".0" : Str) = some NameKind.local) (hco : scope.isCoroutine = false)
    (hs : ∀ x, genFold iter X.env x = pure x) (hi : PI X tg iter wi) (hpg : ∀ s H C code fp pn, PG (gnX X s H (gnE X scope C code) fp pn) tg g) (hpe : ∀ s H C code fp pn, PE (gnX X s H (gnE X scope C code) fp pn) elt te) :
    PE X (.Call (.Name (gnm b) p) [.GeneratorExp elt [⟨tg, iter, [], 0⟩] scope gpos] [] pos) (tGn b wi g te (own.map (·.2)) P gpos) := by
  have he : starEach [.GeneratorExp elt [⟨tg, iter, [], 0⟩] scope gpos] X.env = (false, eval (.GeneratorExp elt [⟨tg, iter, [], 0⟩] scope gpos) X.env) :: starEach [] X.env := by rfl
  have hdp : X.A.depth < recursionLimit := by have := hr.dp; omega
  refine ⟨fun pins s σ H Q I h => ?_⟩
  cases b with
  | true =>
    refine wpAny_Call_Name_kw (ld_blt I hg hm boot_any ?_)
    refine PyProof.Rows.callWith_builtin1 ?_ he (by rfl)
    rw [he]
    show wpAny _ _ (spliced ((false, eval (.GeneratorExp elt [⟨tg, iter, [], 0⟩] scope gpos) X.env) :: backTo pos (starEach [] X.env))) _ _ s
    refine Calls.spliced_cons (gen_make hr hc hN TB hcode ok hnc h0 hco hs hi hpg hpe I h fun s3 H3 fp a gn n s5 ga hfin => ?_)
    refine Calls.spliced_nil ?_
    refine call_function_tree F.kind_any F.plain_any F.entry_any (F.args_any1 _) ?_
    unfold Builtin.«any»
    refine wpAny_bind (m := oneArg "any" _) (wpAny_pure ?_)
    refine wpAny_bind (wpAny_pyIter_gen ga.1 ?_)
    exact wpAny_pure ⟨plainId_quiet F.plain_any_loop _, any_loop hr.hd hdp (fun k s' hf => hfin k s' hf) n s5 ga⟩
  | false =>
    refine wpAny_Call_Name_kw (ld_blt I hg hm (show bootBuiltins "all" = some (.builtin "all") from by first | rfl | decide +kernel) ?_)
    refine PyProof.Rows.callWith_builtin1 ?_ he (by rfl)
    rw [he]
    show wpAny _ _ (spliced ((false, eval (.GeneratorExp elt [⟨tg, iter, [], 0⟩] scope gpos) X.env) :: backTo pos (starEach [] X.env))) _ _ s
    refine Calls.spliced_cons (gen_make hr hc hN TB hcode ok hnc h0 hco hs hi hpg hpe I h fun s3 H3 fp a gn n s5 ga hfin => ?_)
    refine Calls.spliced_nil ?_
    refine call_function_tree F.kind_all F.plain_all F.entry_all (F.args_all1 _) ?_
    unfold Builtin.«all»
    refine wpAny_bind (m := oneArg "all" _) (wpAny_pure ?_)
    refine wpAny_bind (wpAny_pyIter_gen ga.1 ?_)
    exact wpAny_pure ⟨plainId_quiet F.plain_all_loop _, all_loop hr.hd hdp (fun k s' hf => hfin k s' hf) n s5 ga⟩
end
end Co
/-! The core language: values as trees, an abstract heap for what is changed in place, its evaluator. -/
namespace Co
open PySem L2
/-- values: tuples and lists that nobody changes are trees; ct: a tuple of the module; sc: a list of the module or the script; ref: an object of the abstract heap -/
inductive D where
  | non | bl (b : Bool) | int (i : Int) | str (x : Str) | tup (ds : List D) | ct (ds : List D) | lv (ds : List D) | sc (ds : List D) | dv (ks : List Key) (ds : List D) | ref (a : Nat)
inductive Ob where
  | lst (ds : List D) | dK (kvs : List (Key × D)) | dT (kvs : List (List Key × D)) | lk (kvs : List (Key × D)) | lkT (kvs : List (List Key × D)) | ins (c : Str) (fs : List (Str × D))
structure S where
  next : Nat
  heap : Nat → Option Ob
abbrev Env := List (Option D)
/-- a result: a value, an exception of the class c, or nothing that is spoken of -/
inductive R (α : Type) where
  | ok (a : α) (s : S) | exc (c : Str) (fs : List (Str × D)) (s : S) | bad
def bd {α β : Type} (r : R α) (f : α → S → R β) : R β := match r with
  | .ok a s => f a s
  | .exc c fs s => .exc c fs s
  | .bad => .bad
theorem bd_ok {α β : Type} (a : α) (s : S) (f : α → S → R β) : bd (.ok a s) f = f a s := rfl
abbrev LINE : Nat := sizeLine
def updA (h : Nat → Option Ob) (a : Nat) (o : Ob) : Nat → Option Ob := fun b => if b = a then some o else h b
def S.upd (s : S) (a : Nat) (o : Ob) : S := ⟨s.next, updA s.heap a o⟩
def S.alloc (s : S) (o : Ob) : S := ⟨s.next + 1, updA s.heap s.next o⟩
/-- a frozen object leaves the heap -/
def S.free (s : S) (a : Nat) : S := ⟨s.next, fun b => if b = a then none else s.heap b⟩
/-! ### values -/
def keyOf : D → Option Key
  | .int i => some (.inl i)
  | .str x => some (.inr x)
  | _ => none
def dOfKey : Key → D
  | .inl i => .int i
  | .inr x => .str x
def keysOf : List D → Option (List Key)
  | [] => some []
  | d :: ds => match keyOf d, keysOf ds with
    | some k, some ks => some (k :: ks)
    | _, _ => none
def keyT : D → Option (List Key)
  | .tup ds => keysOf ds
  | _ => none
/-- the items of a list -/
def lstOf (d : D) (s : S) : Option (List D) := match d with
  | .lv ds => some ds
  | .sc ds => some ds
  | .ref a => match s.heap a with
    | some (.lst ds) => some ds
    | _ => none
  | _ => none
/-- the items of a list or a tuple -/
def seqOf (d : D) (s : S) : Option (List D) := match d with
  | .tup ds => some ds
  | .ct ds => some ds
  | d => lstOf d s
/-- a dict with keys that are ints and texts -/
def dicOf (d : D) (s : S) : Option (List (Key × D)) := match d with
  | .dv ks ds => if ks.length = ds.length then some (ks.zip ds) else none
  | .ref a => match s.heap a with
    | some (.dK kvs) => some kvs
    | some (.lk kvs) => some kvs
    | _ => none
  | _ => none
def getK {κ : Type} [DecidableEq κ] (kvs : List (κ × D)) (k : κ) : Option D := (kvs.find? fun kv => decide (kv.1 = k)).map (·.2)
def putD {κ : Type} [DecidableEq κ] (kvs : List (κ × D)) (k : κ) (v : D) : List (κ × D) :=
  if (kvs.any fun kv => decide (kv.1 = k)) = true then kvs.map (fun kv => if kv.1 = k then (kv.1, v) else kv) else kvs ++ [(k, v)]
def dropD {κ : Type} [DecidableEq κ] (kvs : List (κ × D)) (k : κ) : List (κ × D) := kvs.filter fun kv => decide (kv.1 ≠ k)
def putFD (f : Str) (v : D) : List (Str × D) → List (Str × D)
  | [] => [(f, v)]
  | (g, x) :: r => if g = f then (g, v) :: r else (g, x) :: putFD f v r
def pyKey : Key → PyData
  | .inl i => .int i
  | .inr x => .str x
mutual
/-- the data that a value without objects is -/
def pyD : D → Option PyData
  | .non => some .none
  | .bl b => some (.bool b)
  | .int i => some (.int i)
  | .str x => some (.str x)
  | .tup ds => (pyL ds).map .tuple
  | .ct ds => (pyL ds).map .tuple
  | .lv ds => (pyL ds).map .list
  | .sc ds => (pyL ds).map .list
  | .dv ks ds => if ks.length = ds.length then (pyL ds).map fun ps => .dict ((ks.map pyKey).zip ps) else none
  | .ref _ => none
def pyL : List D → Option (List PyData)
  | [] => some []
  | d :: ds => match pyD d, pyL ds with
    | some p, some ps => some (p :: ps)
    | _, _ => none
end
/-- .. or an object of the heap that holds such -/
def pyT (s : S) : D → Option PyData
  | .ref a => match s.heap a with
    | some (.lst ds) => (pyL ds).map .list
    | some (.dK kvs) => (pyL (kvs.map (·.2))).map fun ps => .dict ((kvs.map fun kv => pyKey kv.1).zip ps)
    | _ => none
  | d => pyD d
end Co
namespace Co
open PySem PySem.Spec PyProof.Rows L2
abbrev Frag := PySem.W.Frag
/-! ### the defs that hold generator expressions or lambdas: their code objects and tables -/
def genE : Nat → Expr → Bool
  | 0, _ => false
  | n + 1, e => match e with
    | .GeneratorExp _ _ _ _ => true
    | .Lambda _ _ _ _ => true
    | .BoolOp _ vs _ => vs.any (genE n)
    | .BinOp a _ b _ => genE n a || genE n b
    | .UnaryOp _ a _ => genE n a
    | .IfExp a b c _ => genE n a || genE n b || genE n c
    | .Call f as ks _ => genE n f || as.any (genE n) || ks.any (fun k => genE n k.value)
    | .Compare a _ bs _ => genE n a || bs.any (genE n)
    | .Tuple es _ _ => es.any (genE n)
    | .List es _ => es.any (genE n)
    | .Subscript a b _ => genE n a || genE n b
    | .Attribute a _ _ => genE n a
    | .ListComp e gs _ _ => genE n e || gs.any (fun g => genE n g.iter || g.ifs.any (genE n))
    | .DictComp k v gs _ _ => genE n k || genE n v || gs.any (fun g => genE n g.iter || g.ifs.any (genE n))
    | _ => false
def genS : Nat → Stmt → Bool
  | 0, _ => false
  | n + 1, s => match s with
    | .Return (some e) _ => genE n e
    | .Assign _ e _ => genE n e
    | .AugAssign _ _ e _ => genE n e
    | .Expr e _ => genE n e
    | .If t a b _ => genE n t || a.any (genS n) || b.any (genS n)
    | .While t a b _ => genE n t || a.any (genS n) || b.any (genS n)
    | .For _ e a b _ => genE n e || a.any (genS n) || b.any (genS n)
    | .Try a _ b c _ => a.any (genS n) || b.any (genS n) || c.any (genS n)
    | _ => false
def genF (b : List Stmt) : Bool := b.any (genS 24)
/-- where lambdas stand -/
def lamE : Nat → Expr → List Pos
  | 0, _ => []
  | n + 1, e => match e with
    | .Lambda _ _ _ pos => [pos]
    | .BoolOp _ vs _ => vs.flatMap (lamE n)
    | .BinOp a _ b _ => lamE n a ++ lamE n b
    | .UnaryOp _ a _ => lamE n a
    | .IfExp a b c _ => lamE n a ++ lamE n b ++ lamE n c
    | .Call f as ks _ => lamE n f ++ as.flatMap (lamE n) ++ ks.flatMap (fun k => lamE n k.value)
    | .Compare a _ bs _ => lamE n a ++ bs.flatMap (lamE n)
    | .Tuple es _ _ => es.flatMap (lamE n)
    | .List es _ => es.flatMap (lamE n)
    | .Subscript a b _ => lamE n a ++ lamE n b
    | .Attribute a _ _ => lamE n a
    | .ListComp e gs _ _ => lamE n e ++ gs.flatMap (fun g => lamE n g.iter ++ g.ifs.flatMap (lamE n))
    | .DictComp k v gs _ _ => lamE n k ++ lamE n v ++ gs.flatMap (fun g => lamE n g.iter ++ g.ifs.flatMap (lamE n))
    | _ => []
def lamS : Nat → Stmt → List Pos
  | 0, _ => []
  | n + 1, s => match s with
    | .Return (some e) _ => lamE n e
    | .Assign _ e _ => lamE n e
    | .AugAssign _ _ e _ => lamE n e
    | .Expr e _ => lamE n e
    | .If t a b _ => lamE n t ++ a.flatMap (lamS n) ++ b.flatMap (lamS n)
    | .While t a b _ => lamE n t ++ a.flatMap (lamS n) ++ b.flatMap (lamS n)
    | .For _ e a b _ => lamE n e ++ a.flatMap (lamS n) ++ b.flatMap (lamS n)
    | .Try a _ b c _ => a.flatMap (lamS n) ++ b.flatMap (lamS n) ++ c.flatMap (lamS n)
    | _ => []
def lamF (b : List Stmt) : List Pos := b.flatMap (lamS 24)
/-- a def's code object, its table, the name that its lambdas' code objects bear, where they stand -/
structure Tb where
  c : Addr
  P : Addr
  q : Str
  lm : List Pos
def tabOf (K : Frag) (v : Value) : Option (Addr × Addr) := match v with
  | .ref c => (match K.lookup c with
    | some ⟨_, _, .fields vs, _⟩ => (match (vs[11]? : Option Value) with
      | some (.ref P) => some (c, P)
      | _ => none)
    | _ => none)
  | _ => none
def tabAt (K : Frag) (o : Obj) : Option Tb := match o.data with
  | .func fd => (match fd.body with
    | .stmts b => if genF b then (tabOf K fd.code).map fun p => ⟨p.1, p.2, (fd.qualname ++ ".<locals>.") ++ "<lambda>", lamF b⟩ else none
    | _ => none)
  | _ => none
def tabsK (K : Frag) : List Tb := K.filterMap fun p => tabAt K p.2
/-- the table is tracked, and the code objects of lambdas that it tells -/
def TabL (H : Hp) (t : Tb) : Prop := ∃ ps : Array Value, H t.P = some (.tbl ps) ∧ TriplesOk ps.toList ∧ ∀ pos ∈ t.lm, ∀ cv, codeAmong pos ps.toList = some cv → ∃ c', cv = .ref c' ∧ H c' = some (LamX.CodeO c' t.q)
theorem TabL.g {H : Hp} {t : Tb} (h : TabL H t) : GxR.TabG H t.P := let ⟨ps, h1, h2, _⟩ := h; ⟨ps, h1, h2⟩
/-- a table, or such a code object -/
def Fx (o : HO) : Prop := (∃ ps, o = .tbl ps) ∨ ∃ φ, o = .ext φ
theorem fx_code {c : Addr} {q : Str} : Fx (LamX.CodeO c q) := .inr ⟨_, rfl⟩
theorem tab_upd {H : Hp} {p : Addr} {t : Tb} {o : HO} (h : TabL H t) (n : ∀ u, H p = some u → ¬ Fx u) : TabL (upd H p o) t := by
  obtain ⟨ps, e, ok, l⟩ := h
  refine ⟨ps, (upd_ne fun z : t.P = p => n _ (by rw [← z]; exact e) (.inl ⟨_, rfl⟩)).trans e, ok, fun pos hp cv hc => ?_⟩
  obtain ⟨c', e1, e2⟩ := l pos hp cv hc
  exact ⟨c', e1, (upd_ne fun z : c' = p => n _ (by rw [← z]; exact e2) fx_code).trans e2⟩
theorem tabG_ne {H : Hp} {p : Addr} {t : Tb} (h : TabL H t) (n : ∀ u, H p = some u → ¬ Fx u) : t.P ≠ p := fun z => by
  obtain ⟨ps, e, _⟩ := h
  exact n _ (by rw [← z]; exact e) (.inl ⟨_, rfl⟩)
/-- where the abstract objects stand; which lists and dicts are frozen; what else is to stay as it is -/
structure Gh where
  mu : Nat → Option Addr
  z : Addr → Prop
  pr : Addr → Prop
/-- a list of the module or the script -/
def SqS (K : Frag) (H : Hp) (p : Addr) (vs : List V) : Prop := (∃ o, H p = some (.frz o (.lst vs))) ∨
  ∃ (o : Obj) (its : Array Value) (n : Nat), K.lookup p = some o ∧ o.cls = .type "list" ∧ o.dict = none ∧ o.data = .seq its n ∧ its.size ≤ sizeLine ∧ Vals vs its.toList
/-- a tuple that is known to have no dict -/
def SqC (K : Frag) (H : Hp) (p : Addr) (vs : List V) : Prop := (∃ o, H p = some (.frz o (.tup vs)) ∧ o.dict = none) ∨
  ∃ (o : Obj) (its : Array Value) (n : Nat), K.lookup p = some o ∧ o.cls = .type "tuple" ∧ o.dict = none ∧ o.data = .seq its n ∧ its.size ≤ sizeLine ∧ Vals vs its.toList
theorem SqC.tup {K : Frag} {H : Hp} {p : Addr} {vs : List V} (h : SqC K H p vs) : SqT K H p vs := h.elim (fun ⟨o, e, _⟩ => .inl (.inr ⟨o, e⟩)) fun ⟨o, its, n, h1, h2, _, h3⟩ => .inr ⟨o, its, n, h1, h2, h3⟩
theorem SqS.seq {K : Frag} {H : Hp} {p : Addr} {vs : List V} (h : SqS K H p vs) : SqL K H p vs := h.elim (fun ⟨o, e⟩ => .inl (.inr ⟨o, e⟩)) .inr
mutual
def RD (K : Frag) (g : Gh) (H : Hp) : D → V → Prop
  | .non, v => v = .non
  | .bl b, v => v = .bl b
  | .int i, v => v = .int i
  | .str x, v => v = .str x
  | .tup ds, v => ∃ p vs, v = .ref p ∧ H p = some (.tup vs) ∧ RDs K g H ds vs
  | .ct ds, v => ∃ p vs, v = .ref p ∧ SqC K H p vs ∧ RDs K g H ds vs
  | .lv ds, v => ∃ p vs, v = .ref p ∧ g.z p ∧ H p = some (.lst vs) ∧ RDs K g H ds vs
  | .sc ds, v => ∃ p vs, v = .ref p ∧ SqS K H p vs ∧ RDs K g H ds vs
  | .dv ks ds, v => ∃ p kvs, v = .ref p ∧ g.z p ∧ H p = some (.dK kvs) ∧ kvs.map (·.1) = ks ∧ RDs K g H ds (kvs.map (·.2))
  | .ref a, v => ∃ p, v = .ref p ∧ g.mu a = some p
def RDs (K : Frag) (g : Gh) (H : Hp) : List D → List V → Prop
  | [], vs => vs = []
  | d :: ds, vs => ∃ v r, vs = v :: r ∧ RD K g H d v ∧ RDs K g H ds r
end
/-- a tuple or a list -/
def SqU (u : HO) : Prop := ∃ xs, u = .tup xs ∨ u = .lst xs
/-- from one state to a later one -/
structure Stp0 (g : Gh) (H : Hp) (g' : Gh) (H' : Hp) : Prop where
  mu : ∀ a p, g.mu a = some p → g'.mu a = some p
  z : ∀ p, g.z p → g'.z p ∧ H' p = H p
  tup : ∀ p xs, H p = some (.tup xs) → H' p = some (.tup xs)
  frz : ∀ p o u, SqU u → H p = some (.frz o u) → H' p = some (.frz o u)
structure Stp (g : Gh) (H : Hp) (g' : Gh) (H' : Hp) : Prop extends Stp0 g H g' H' where
  fz : ∀ p o u, H p = some (.frz o u) → H' p = some (.frz o u)
  pr : ∀ p, g.pr p → g'.pr p ∧ H' p = H p
theorem Stp.refl (g : Gh) (H : Hp) : Stp g H g H := ⟨⟨fun _ _ e => e, fun _ h => ⟨h, rfl⟩, fun _ _ e => e, fun _ _ _ _ e => e⟩, fun _ _ _ e => e, fun _ h => ⟨h, rfl⟩⟩
theorem Stp.trans {g g1 g2 : Gh} {H H1 H2 : Hp} (a : Stp g H g1 H1) (b : Stp g1 H1 g2 H2) : Stp g H g2 H2 :=
  ⟨⟨fun x p e => b.mu x p (a.mu x p e), fun p h => ⟨(b.z p (a.z p h).1).1, (b.z p (a.z p h).1).2.trans (a.z p h).2⟩, fun p xs e => b.tup p xs (a.tup p xs e), fun p o u q e => b.frz p o u q (a.frz p o u q e)⟩, fun p o u e => b.fz p o u (a.fz p o u e), fun p h => ⟨(b.pr p (a.pr p h).1).1, (b.pr p (a.pr p h).1).2.trans (a.pr p h).2⟩⟩
section
variable {K : Frag} {g g' : Gh} {H H' : Hp}
theorem Stp0.sqT (st : Stp0 g H g' H') {p : Addr} {vs : List V} (h : SqT K H p vs) : SqT K H' p vs := by
  rcases h with (h | ⟨o, h⟩) | h
  · exact .inl (.inl (st.tup _ _ h))
  · exact .inl (.inr ⟨o, st.frz _ _ _ ⟨_, .inl rfl⟩ h⟩)
  · exact .inr h
theorem Stp0.sqC (st : Stp0 g H g' H') {p : Addr} {vs : List V} (h : SqC K H p vs) : SqC K H' p vs := h.elim (fun ⟨o, e, n⟩ => .inl ⟨o, st.frz _ _ _ ⟨_, .inl rfl⟩ e, n⟩) .inr
theorem Stp0.sqS (st : Stp0 g H g' H') {p : Addr} {vs : List V} (h : SqS K H p vs) : SqS K H' p vs := by
  rcases h with ⟨o, h⟩ | h
  · exact .inl ⟨o, st.frz _ _ _ ⟨_, .inr rfl⟩ h⟩
  · exact .inr h
mutual
theorem RD.mono (st : Stp0 g H g' H') : ∀ (d : D) (v : V), RD K g H d v → RD K g' H' d v
  | .non, _, h => h
  | .bl _, _, h => h
  | .int _, _, h => h
  | .str _, _, h => h
  | .tup ds, v, h => by
    obtain ⟨p, vs, e, q, r⟩ := h
    exact ⟨p, vs, e, st.tup _ _ q, RDs.mono st ds vs r⟩
  | .ct ds, v, h => by
    obtain ⟨p, vs, e, q, r⟩ := h
    exact ⟨p, vs, e, st.sqC q, RDs.mono st ds vs r⟩
  | .lv ds, v, h => by
    obtain ⟨p, vs, e, z, q, r⟩ := h
    exact ⟨p, vs, e, (st.z p z).1, (st.z p z).2.trans q, RDs.mono st ds vs r⟩
  | .sc ds, v, h => by
    obtain ⟨p, vs, e, q, r⟩ := h
    exact ⟨p, vs, e, st.sqS q, RDs.mono st ds vs r⟩
  | .dv ks ds, v, h => by
    obtain ⟨p, kvs, e, z, q, k, r⟩ := h
    exact ⟨p, kvs, e, (st.z p z).1, (st.z p z).2.trans q, k, RDs.mono st ds _ r⟩
  | .ref a, v, h => by
    obtain ⟨p, e, q⟩ := h
    exact ⟨p, e, st.mu a p q⟩
theorem RDs.mono (st : Stp0 g H g' H') : ∀ (ds : List D) (vs : List V), RDs K g H ds vs → RDs K g' H' ds vs
  | [], _, h => h
  | d :: ds, vs, h => by
    obtain ⟨v, r, e, h1, h2⟩ := h
    exact ⟨v, r, e, RD.mono st d v h1, RDs.mono st ds r h2⟩
end
end
theorem RDs.nil {K : Frag} {g : Gh} {H : Hp} : RDs K g H [] [] := rfl
theorem RDs.cons {K : Frag} {g : Gh} {H : Hp} {d : D} {ds : List D} {v : V} {vs : List V} (h1 : RD K g H d v) (h2 : RDs K g H ds vs) : RDs K g H (d :: ds) (v :: vs) := ⟨v, vs, rfl, h1, h2⟩
theorem RDs.length {K : Frag} {g : Gh} {H : Hp} : ∀ {ds : List D} {vs : List V}, RDs K g H ds vs → ds.length = vs.length
  | [], _, h => by cases h; rfl
  | d :: ds, vs, h => by
    obtain ⟨v, r, rfl, _, h2⟩ := h
    simp [RDs.length h2]
theorem RDs.append {K : Frag} {g : Gh} {H : Hp} : ∀ {ds es : List D} {vs us : List V}, RDs K g H ds vs → RDs K g H es us → RDs K g H (ds ++ es) (vs ++ us)
  | [], _, _, _, h, k => by cases h; exact k
  | d :: ds, es, vs, us, h, k => by
    obtain ⟨v, r, rfl, h1, h2⟩ := h
    exact ⟨v, r ++ us, rfl, h1, RDs.append h2 k⟩
theorem RDs.get {K : Frag} {g : Gh} {H : Hp} : ∀ {ds : List D} {vs : List V} {i : Nat} {d : D}, RDs K g H ds vs → ds[i]? = some d → ∃ v, vs[i]? = some v ∧ RD K g H d v
  | [], _, _, _, h, e => by simp at e
  | d :: ds, vs, i, e0, h, e => by
    obtain ⟨v, r, rfl, h1, h2⟩ := h
    cases i with
    | zero => simp at e; subst e; exact ⟨v, rfl, h1⟩
    | succ i => simpa using RDs.get h2 (i := i) (by simpa using e)
theorem RDs.drop {K : Frag} {g : Gh} {H : Hp} : ∀ {ds : List D} {vs : List V} (n : Nat), RDs K g H ds vs → RDs K g H (ds.drop n) (vs.drop n)
  | ds, vs, 0, h => h
  | [], vs, n + 1, h => by cases h; exact rfl
  | d :: ds, vs, n + 1, h => by
    obtain ⟨v, r, rfl, h1, h2⟩ := h
    exact RDs.drop n h2
theorem RDs.take {K : Frag} {g : Gh} {H : Hp} : ∀ {ds : List D} {vs : List V} (n : Nat), RDs K g H ds vs → RDs K g H (ds.take n) (vs.take n)
  | ds, vs, 0, h => rfl
  | [], vs, n + 1, h => by cases h; exact rfl
  | d :: ds, vs, n + 1, h => by
    obtain ⟨v, r, rfl, h1, h2⟩ := h
    exact ⟨v, r.take n, rfl, h1, RDs.take n h2⟩
theorem RDs.reverse {K : Frag} {g : Gh} {H : Hp} : ∀ {ds : List D} {vs : List V}, RDs K g H ds vs → RDs K g H ds.reverse vs.reverse
  | [], vs, h => by cases h; exact rfl
  | d :: ds, vs, h => by
    obtain ⟨v, r, rfl, h1, h2⟩ := h
    rw [List.reverse_cons, List.reverse_cons]
    exact RDs.append (RDs.reverse h2) (.cons h1 .nil)
theorem RDs.set {K : Frag} {g : Gh} {H : Hp} {d0 : D} {v0 : V} (h0 : RD K g H d0 v0) : ∀ {ds : List D} {vs : List V} (n : Nat), RDs K g H ds vs → RDs K g H (ds.set n d0) (vs.set n v0)
  | [], vs, n, h => by cases h; exact rfl
  | d :: ds, vs, 0, h => by
    obtain ⟨v, r, rfl, h1, h2⟩ := h
    exact ⟨v0, r, rfl, h0, h2⟩
  | d :: ds, vs, n + 1, h => by
    obtain ⟨v, r, rfl, h1, h2⟩ := h
    exact ⟨v, r.set n v0, rfl, h1, RDs.set h0 n h2⟩
theorem RDs.eraseIdx {K : Frag} {g : Gh} {H : Hp} : ∀ {ds : List D} {vs : List V} (n : Nat), RDs K g H ds vs → RDs K g H (ds.eraseIdx n) (vs.eraseIdx n)
  | [], vs, n, h => by cases h; exact rfl
  | d :: ds, vs, 0, h => by
    obtain ⟨v, r, rfl, h1, h2⟩ := h
    exact h2
  | d :: ds, vs, n + 1, h => by
    obtain ⟨v, r, rfl, h1, h2⟩ := h
    exact ⟨v, r.eraseIdx n, rfl, h1, RDs.eraseIdx n h2⟩
/-- an object of the abstract heap stands at p -/
def RO (K : Frag) (g : Gh) (H : Hp) (p : Addr) : Ob → Prop
  | .lst ds => ∃ vs, H p = some (.lst vs) ∧ RDs K g H ds vs
  | .dK kvs => ∃ ws, H p = some (.dK ws) ∧ ws.map (·.1) = kvs.map (·.1) ∧ RDs K g H (kvs.map (·.2)) (ws.map (·.2))
  | .dT kvs => ∃ ws, H p = some (.dT ws) ∧ ws.map (·.1) = kvs.map (·.1) ∧ RDs K g H (kvs.map (·.2)) (ws.map (·.2))
  | .lk kvs => ∃ o ws, H p = some (.frz o (.dK ws)) ∧ ws.map (·.1) = kvs.map (·.1) ∧ RDs K g H (kvs.map (·.2)) (ws.map (·.2))
  | .lkT kvs => ∃ o ws, H p = some (.frz o (.dT ws)) ∧ ws.map (·.1) = kvs.map (·.1) ∧ RDs K g H (kvs.map (·.2)) (ws.map (·.2))
  | .ins c fs => ∃ dx ws, H p = some (.ins (He.ga K c) dx ws) ∧ ws.map (·.1) = fs.map (·.1) ∧ RDs K g H (fs.map (·.2)) (ws.map (·.2))
structure Rel (K : Frag) (g : Gh) (s : S) (H : Hp) : Prop where
  dom : ∀ a p, g.mu a = some p → a < s.next
  obj : ∀ a o, s.heap a = some o → ∃ p, g.mu a = some p ∧ (¬ g.z p ∧ ¬ g.pr p) ∧ RO K g H p o
  inj : ∀ a b p oa ob, s.heap a = some oa → s.heap b = some ob → g.mu a = some p → g.mu b = some p → a = b
  zz : ∀ p, g.z p → H p ≠ none
  pp : ∀ p, g.pr p → H p ≠ none ∧ ¬ g.z p
  tt : ∀ t ∈ tabsK K, TabL H t ∧ ¬ g.z t.P ∧ ¬ g.pr t.P
theorem RO.mono {K : Frag} {g g' : Gh} {H H' : Hp} {p : Addr} (st : Stp0 g H g' H') (e : H' p = H p) : ∀ {o : Ob}, RO K g H p o → RO K g' H' p o
  | .lst ds, ⟨vs, h1, h2⟩ => ⟨vs, e.trans h1, RDs.mono st _ _ h2⟩
  | .dK kvs, ⟨ws, h1, h2, h3⟩ => ⟨ws, e.trans h1, h2, RDs.mono st _ _ h3⟩
  | .dT kvs, ⟨ws, h1, h2, h3⟩ => ⟨ws, e.trans h1, h2, RDs.mono st _ _ h3⟩
  | .ins c fs, ⟨dx, ws, h1, h2, h3⟩ => ⟨dx, ws, e.trans h1, h2, RDs.mono st _ _ h3⟩
  | .lk kvs, ⟨o, ws, h1, h2, h3⟩ => ⟨o, ws, e.trans h1, h2, RDs.mono st _ _ h3⟩
  | .lkT kvs, ⟨o, ws, h1, h2, h3⟩ => ⟨o, ws, e.trans h1, h2, RDs.mono st _ _ h3⟩
theorem RO.tracked {K : Frag} {g : Gh} {H : Hp} {p : Addr} : ∀ {o : Ob}, RO K g H p o → H p ≠ none
  | .lst ds, ⟨vs, h1, h2⟩ => by rw [h1]; simp
  | .dK kvs, ⟨ws, h1, h2, h3⟩ => by rw [h1]; simp
  | .dT kvs, ⟨ws, h1, h2, h3⟩ => by rw [h1]; simp
  | .ins c fs, ⟨dx, ws, h1, h2, h3⟩ => by rw [h1]; simp
  | .lk kvs, ⟨o, ws, h1, h2, h3⟩ => by rw [h1]; simp
  | .lkT kvs, ⟨o, ws, h1, h2, h3⟩ => by rw [h1]; simp
theorem RO.notTup {K : Frag} {g : Gh} {H : Hp} {p : Addr} {xs : List V} (h : H p = some (.tup xs)) : ∀ {o : Ob}, ¬ RO K g H p o
  | .lst ds, ⟨vs, h1, h2⟩ => by rw [h] at h1; cases h1
  | .dK kvs, ⟨ws, h1, h2, h3⟩ => by rw [h] at h1; cases h1
  | .dT kvs, ⟨ws, h1, h2, h3⟩ => by rw [h] at h1; cases h1
  | .lk kvs, ⟨o, ws, h1, h2, h3⟩ => by rw [h] at h1; cases h1
  | .lkT kvs, ⟨o, ws, h1, h2, h3⟩ => by rw [h] at h1; cases h1
  | .ins c fs, ⟨dx, ws, h1, h2, h3⟩ => by rw [h] at h1; cases h1
/-- it may be written -/
def Ob.isFree : Ob → Bool
  | .lk _ => false
  | .lkT _ => false
  | _ => true
theorem RO.notFrz {K : Frag} {g : Gh} {H : Hp} {p : Addr} {ob : Obj} {u : HO} (h : H p = some (.frz ob u)) : ∀ {o : Ob}, o.isFree = true → ¬ RO K g H p o
  | .lk kvs, e, _ => by cases e
  | .lkT kvs, e, _ => by cases e
  | .lst ds, _, ⟨vs, h1, h2⟩ => by rw [h] at h1; cases h1
  | .dK kvs, _, ⟨ws, h1, h2, h3⟩ => by rw [h] at h1; cases h1
  | .dT kvs, _, ⟨ws, h1, h2, h3⟩ => by rw [h] at h1; cases h1
  | .ins c fs, _, ⟨dx, ws, h1, h2, h3⟩ => by rw [h] at h1; cases h1
section
variable {K : Frag} {g : Gh} {s : S} {H : Hp}
/-- something new is tracked: nothing that was changes -/
theorem stp_new {p : Addr} {o : HO} (R : Rel K g s H) (hp : H p = none) : Stp g H g (upd H p o) :=
  ⟨⟨fun _ _ e => e, fun q h => ⟨h, upd_ne fun e => R.zz q h (e ▸ hp)⟩, fun q xs e => (upd_ne (ne_of_none e hp)).trans e, fun q o u _ e => (upd_ne (ne_of_none e hp)).trans e⟩, fun q o u e => (upd_ne (ne_of_none e hp)).trans e, fun q h => ⟨h, upd_ne fun e => (R.pp q h).1 (e ▸ hp)⟩⟩
theorem upd_some {H : Hp} {p q : Addr} {o : HO} (h : H q ≠ none) : upd H p o q ≠ none := by
  by_cases e : q = p
  · rw [e, upd_same]; simp
  · rw [upd_ne e]; exact h
theorem none_fx {p : Addr} (hp : H p = none) : ∀ u, H p = some u → ¬ Fx u := fun u e => by rw [hp] at e; cases e
theorem RO.notFx {p : Addr} {u : HO} (h : H p = some u) (f : Fx u) : ∀ {o : Ob}, ¬ RO K g H p o := fun {o} r => by
  rcases f with ⟨ps, rfl⟩ | ⟨φ, rfl⟩ <;> cases o with
  | lst ds => obtain ⟨vs, h1, h2⟩ := r; rw [h] at h1; cases h1
  | dK kvs => obtain ⟨ws, h1, h2, h3⟩ := r; rw [h] at h1; cases h1
  | dT kvs => obtain ⟨ws, h1, h2, h3⟩ := r; rw [h] at h1; cases h1
  | lk kvs => obtain ⟨o, ws, h1, h2, h3⟩ := r; rw [h] at h1; cases h1
  | lkT kvs => obtain ⟨o, ws, h1, h2, h3⟩ := r; rw [h] at h1; cases h1
  | ins c fs => obtain ⟨dx, ws, h1, h2, h3⟩ := r; rw [h] at h1; cases h1
theorem Rel.new {p : Addr} {o : HO} (R : Rel K g s H) (hp : H p = none) : Rel K g s (upd H p o) := by
  refine ⟨R.dom, fun a ob e => ?_, R.inj, fun q h => upd_some (R.zz q h), fun q h => ⟨upd_some (R.pp q h).1, (R.pp q h).2⟩, fun q hq => ⟨tab_upd (R.tt q hq).1 (none_fx hp), (R.tt q hq).2⟩⟩
  obtain ⟨q, h1, h2, h3⟩ := R.obj a ob e
  exact ⟨q, h1, h2, h3.mono (stp_new R hp).toStp0 (upd_ne fun z => h3.tracked (by rw [z]; exact hp))⟩
/-- a new frozen object -/
def Gh.frz (g : Gh) (p : Addr) : Gh := ⟨g.mu, fun q => g.z q ∨ q = p, g.pr⟩
theorem stp_frz {p : Addr} {o : HO} (R : Rel K g s H) (hp : H p = none) : Stp g H (g.frz p) (upd H p o) :=
  let st := stp_new (o := o) R hp
  ⟨⟨st.mu, fun q h => ⟨.inl (st.z q h).1, (st.z q h).2⟩, st.tup, st.frz⟩, st.fz, st.pr⟩
theorem Rel.frz {p : Addr} {o : HO} (R : Rel K g s H) (hp : H p = none) : Rel K (g.frz p) s (upd H p o) := by
  have R1 := R.new (o := o) hp
  refine ⟨R.dom, fun a ob e => ?_, R.inj, fun q h => ?_, fun q h => ⟨(R1.pp q h).1, fun z => z.elim (R.pp q h).2 fun e => (R.pp q h).1 (e ▸ hp)⟩, fun q hq => ⟨(R1.tt q hq).1, fun z => z.elim (R.tt q hq).2.1 (tabG_ne (R.tt q hq).1 (none_fx hp)), (R.tt q hq).2.2⟩⟩
  · obtain ⟨q, h1, h2, h3⟩ := R.obj a ob e
    have nq : q ≠ p := fun z => h3.tracked (by rw [z]; exact hp)
    exact ⟨q, h1, ⟨fun z => z.elim h2.1 nq, h2.2⟩, h3.mono (stp_frz R hp).toStp0 (upd_ne nq)⟩
  · rcases h with h | h
    · exact R1.zz q h
    · rw [h, upd_same]; simp
/-- what stands at p is protected, and no longer -/
def Gh.prot (g : Gh) (p : Addr) : Gh := ⟨g.mu, g.z, fun q => g.pr q ∨ q = p⟩
def Gh.unprot (g : Gh) (p : Addr) : Gh := ⟨g.mu, g.z, fun q => g.pr q ∧ q ≠ p⟩
/-- p is ours alone: no object of the abstract heap, not frozen, not protected -/
structure Own (g : Gh) (s : S) (H : Hp) (p : Addr) : Prop where
  there : H p ≠ none
  nz : ¬ g.z p
  np : ¬ g.pr p
  nm : ∀ a o, s.heap a = some o → g.mu a ≠ some p
  nb : ∀ u, H p = some u → ¬ Fx u
theorem own_new {p : Addr} {o : HO} (R : Rel K g s H) (hp : H p = none) (ho : ¬ Fx o := by rintro (⟨_, h⟩ | ⟨_, h⟩) <;> cases h) : Own g s (upd H p o) p :=
  ⟨by rw [upd_same]; simp, fun h => R.zz p h hp, fun h => (R.pp p h).1 hp, fun a oa e z => by
    obtain ⟨q, h1, h2, h3⟩ := R.obj a oa e
    rw [z] at h1; cases h1
    exact h3.tracked hp, fun u e => by rw [upd_same] at e; cases e; exact ho⟩
theorem stp_prot {p : Addr} : Stp g H (g.prot p) H := ⟨⟨fun _ _ e => e, fun _ h => ⟨h, rfl⟩, fun _ _ e => e, fun _ _ _ _ e => e⟩, fun _ _ _ e => e, fun _ h => ⟨.inl h, rfl⟩⟩
theorem Rel.prot {p : Addr} (R : Rel K g s H) (o : Own g s H p) : Rel K (g.prot p) s H := by
  refine ⟨R.dom, fun a ob e => ?_, R.inj, R.zz, fun q h => ?_, fun q hq => ⟨(R.tt q hq).1, (R.tt q hq).2.1, fun z => z.elim (R.tt q hq).2.2 (tabG_ne (R.tt q hq).1 o.nb)⟩⟩
  · obtain ⟨q, h1, h2, h3⟩ := R.obj a ob e
    exact ⟨q, h1, ⟨h2.1, fun z => z.elim h2.2 fun e' => o.nm a ob e (e' ▸ h1)⟩, h3.mono stp_prot.toStp0 rfl⟩
  · rcases h with h | h
    · exact R.pp q h
    · rw [h]; exact ⟨o.there, o.nz⟩
/-- our own object (no tuple, not locked) changes -/
structure Free (g : Gh) (H : Hp) (p : Addr) : Prop where
  nz : ¬ g.z p
  nt : ∀ xs, H p ≠ some (.tup xs)
  nf : ∀ ob u, H p ≠ some (.frz ob u)
  nb : ∀ u, H p = some u → ¬ Fx u
theorem stp_free {p : Addr} {o : HO} (F : Free g H p) (np : ¬ g.pr p) : Stp g H g (upd H p o) :=
  ⟨⟨fun _ _ e => e, fun q h => ⟨h, upd_ne fun e => F.nz (e ▸ h)⟩, fun q xs e => (upd_ne fun z : q = p => F.nt xs (by rw [← z]; exact e)).trans e, fun q ob u _ e => (upd_ne fun z : q = p => F.nf ob u (by rw [← z]; exact e)).trans e⟩, fun q ob u e => (upd_ne fun z : q = p => F.nf ob u (by rw [← z]; exact e)).trans e, fun q h => ⟨h, upd_ne fun e => np (e ▸ h)⟩⟩
theorem Rel.free {p : Addr} {o : HO} (R : Rel K g s H) (F : Free g H p) (np : ¬ g.pr p) (nm : ∀ a o, s.heap a = some o → g.mu a ≠ some p) : Rel K g s (upd H p o) := by
  refine ⟨R.dom, fun a ob e => ?_, R.inj, fun q h => upd_some (R.zz q h), fun q h => ⟨upd_some (R.pp q h).1, (R.pp q h).2⟩, fun q hq => ⟨tab_upd (R.tt q hq).1 F.nb, (R.tt q hq).2⟩⟩
  obtain ⟨q, h1, h2, h3⟩ := R.obj a ob e
  exact ⟨q, h1, h2, h3.mono (stp_free F np).toStp0 (upd_ne fun z => nm a ob e (z ▸ h1))⟩
/-- the protection ends -/
theorem stp0_unprot {p : Addr} : Stp0 g H (g.unprot p) H := ⟨fun _ _ e => e, fun _ h => ⟨h, rfl⟩, fun _ _ e => e, fun _ _ _ _ e => e⟩
theorem Rel.unprot {p : Addr} (R : Rel K g s H) : Rel K (g.unprot p) s H :=
  ⟨R.dom, fun a ob e => let ⟨q, h1, h2, h3⟩ := R.obj a ob e; ⟨q, h1, ⟨h2.1, fun z => h2.2 z.1⟩, h3.mono (g' := g.unprot p) stp0_unprot rfl⟩, R.inj, R.zz, fun q h => R.pp q h.1, fun q hq => ⟨(R.tt q hq).1, (R.tt q hq).2.1, fun z => (R.tt q hq).2.2 z.1⟩⟩
/-- a new object of the abstract heap -/
def Gh.add (g : Gh) (a : Nat) (p : Addr) : Gh := ⟨fun b => if b = a then some p else g.mu b, g.z, g.pr⟩
theorem stp_add {p : Addr} {o : HO} (R : Rel K g s H) (hp : H p = none) : Stp g H (g.add s.next p) (upd H p o) :=
  let st := stp_new (o := o) R hp
  ⟨⟨fun a q e => (if_neg (Nat.ne_of_lt (R.dom a q e))).trans e, st.z, st.tup, st.frz⟩, st.fz, st.pr⟩
theorem Rel.add {p : Addr} {o : HO} {ob : Ob} (R : Rel K g s H) (hp : H p = none) (ho : RO K (g.add s.next p) (upd H p o) p ob) : Rel K (g.add s.next p) (s.alloc ob) (upd H p o) := by
  have lt : ∀ a oa, s.heap a = some oa → a < s.next := fun a oa e => let ⟨q, h1, _⟩ := R.obj a oa e; R.dom a q h1
  have nz : ¬ g.z p := fun z => R.zz p z hp
  have np : ¬ g.pr p := fun z => (R.pp p z).1 hp
  have old : ∀ a q, g.mu a = some q → (g.add s.next p).mu a = some q := fun a q e => (if_neg (Nat.ne_of_lt (R.dom a q e))).trans e
  have new : (g.add s.next p).mu s.next = some p := if_pos rfl
  have hpn : ∀ a q oa, s.heap a = some oa → g.mu a = some q → q ≠ p := fun a q oa e h z => by
    obtain ⟨q', h1, h2, h3⟩ := R.obj a oa e
    rw [h] at h1; cases h1
    exact h3.tracked (by rw [z]; exact hp)
  refine ⟨fun a q e => ?_, fun a oa e => ?_, fun a b q oa ob' ea eb h1 h2 => ?_, fun q h => upd_some (R.zz q h), fun q h => ⟨upd_some (R.pp q h).1, (R.pp q h).2⟩, fun q hq => ⟨tab_upd (R.tt q hq).1 (none_fx hp), (R.tt q hq).2⟩⟩
  · by_cases h : a = s.next
    · subst h; exact Nat.lt_succ_self _
    · exact Nat.lt_succ_of_lt (R.dom a q ((if_neg h).symm.trans e))
  · by_cases h : a = s.next
    · subst h
      have e' : ob = oa := Option.some.inj ((if_pos rfl).symm.trans e)
      subst e'
      exact ⟨p, new, ⟨nz, np⟩, ho⟩
    · have e' : s.heap a = some oa := (if_neg h).symm.trans e
      obtain ⟨q, h1, h2, h3⟩ := R.obj a oa e'
      exact ⟨q, old a q h1, h2, h3.mono (stp_add R hp).toStp0 (upd_ne (hpn a q oa e' h1))⟩
  · by_cases ha : a = s.next
    · by_cases hb : b = s.next
      · rw [ha, hb]
      · exfalso
        have eb' : s.heap b = some ob' := (if_neg hb).symm.trans eb
        have h2' : g.mu b = some q := (if_neg hb).symm.trans h2
        subst ha
        rw [new] at h1; cases h1
        exact hpn b _ _ eb' h2' rfl
    · have ea' : s.heap a = some oa := (if_neg ha).symm.trans ea
      have h1' : g.mu a = some q := (if_neg ha).symm.trans h1
      by_cases hb : b = s.next
      · exfalso
        subst hb
        rw [new] at h2; cases h2
        exact hpn a _ _ ea' h1' rfl
      · exact R.inj a b q oa ob' ea' ((if_neg hb).symm.trans eb) h1' ((if_neg hb).symm.trans h2)
/-- an object is written -/
theorem Rel.freeAt {a : Nat} {oa : Ob} {p : Addr} (R : Rel K g s H) (ha : s.heap a = some oa) (hf : oa.isFree = true) (hm : g.mu a = some p) : Free g H p ∧ ¬ g.pr p := by
  obtain ⟨q, h1, h2, h3⟩ := R.obj a oa ha
  rw [hm] at h1; cases h1
  exact ⟨⟨h2.1, fun xs e => RO.notTup e h3, fun ob u e => RO.notFrz e hf h3, fun u e f => RO.notFx e f h3⟩, h2.2⟩
theorem Rel.upd {a : Nat} {oa ob : Ob} {p : Addr} {o : HO} (R : Rel K g s H) (ha : s.heap a = some oa) (hf : oa.isFree = true) (hm : g.mu a = some p) (ho : RO K g (L2.upd H p o) p ob) : Rel K g (s.upd a ob) (L2.upd H p o) := by
  have F := R.freeAt ha hf hm
  have st := stp_free (o := o) F.1 F.2
  have there : ∀ b ox, (s.upd a ob).heap b = some ox → ∃ oy, s.heap b = some oy := fun b ox e => by
    by_cases h : b = a
    · exact ⟨oa, h ▸ ha⟩
    · exact ⟨ox, (if_neg h).symm.trans e⟩
  refine ⟨R.dom, fun b ox e => ?_, fun b c q ob' oc eb ec h4 h5 => ?_, fun q h => upd_some (R.zz q h), fun q h => ⟨upd_some (R.pp q h).1, (R.pp q h).2⟩, fun q hq => ⟨tab_upd (R.tt q hq).1 F.1.nb, (R.tt q hq).2⟩⟩
  · by_cases h : b = a
    · subst h
      have e' : ob = ox := Option.some.inj ((if_pos rfl).symm.trans e)
      subst e'
      exact ⟨p, hm, ⟨F.1.nz, F.2⟩, ho⟩
    · have e' : s.heap b = some ox := (if_neg h).symm.trans e
      obtain ⟨q, k1, k2, k3⟩ := R.obj b ox e'
      refine ⟨q, k1, k2, k3.mono st.toStp0 (upd_ne fun z => h ?_)⟩
      subst z
      exact R.inj b a q ox oa e' ha k1 hm
  · obtain ⟨oy, ey⟩ := there b ob' eb
    obtain ⟨oz, ez⟩ := there c oc ec
    exact R.inj b c q oy oz ey ez h4 h5
/-- an object of the abstract heap is frozen -/
theorem stp_freeze {p : Addr} : Stp g H (g.frz p) H := ⟨⟨fun _ _ e => e, fun _ h => ⟨.inl h, rfl⟩, fun _ _ e => e, fun _ _ _ _ e => e⟩, fun _ _ _ e => e, fun _ h => ⟨h, rfl⟩⟩
theorem Rel.freeze {a : Nat} {oa : Ob} {p : Addr} (R : Rel K g s H) (ha : s.heap a = some oa) (hm : g.mu a = some p) : Rel K (g.frz p) (s.free a) H := by
  obtain ⟨q, h1, h2, h3⟩ := R.obj a oa ha
  rw [hm] at h1; cases h1
  have out : ∀ b ob, (s.free a).heap b = some ob → b ≠ a ∧ s.heap b = some ob := fun b ob e => by
    by_cases h : b = a
    · have : (none : Option Ob) = some ob := (if_pos h).symm.trans e
      cases this
    · exact ⟨h, (if_neg h).symm.trans e⟩
  refine ⟨R.dom, fun b ob e => ?_, fun b c q ob oc eb ec => R.inj b c q ob oc (out b ob eb).2 (out c oc ec).2, fun q h => h.elim (R.zz q) fun e => e ▸ h3.tracked, fun q h => ⟨(R.pp q h).1, fun z => z.elim (R.pp q h).2 fun e => h2.2 (e ▸ h)⟩, fun q hq => ⟨(R.tt q hq).1, fun z => z.elim (R.tt q hq).2.1 (tabG_ne (R.tt q hq).1 fun u e f => RO.notFx e f h3), (R.tt q hq).2.2⟩⟩
  obtain ⟨hb, e'⟩ := out b ob e
  obtain ⟨q, k1, k2, k3⟩ := R.obj b ob e'
  exact ⟨q, k1, ⟨fun z => z.elim k2.1 fun e => hb (R.inj b a p ob oa e' ha (e ▸ k1) hm), k2.2⟩, k3.mono stp_freeze.toStp0 rfl⟩
end
end Co
namespace Co
open PySem PySem.Spec PyProof.Rows L2
/-- the own dict of an exception: none, or its fields -/
def XF (K : Frag) (g : Gh) (H : Hp) (fs : List (Str × D)) (d : Option Addr) : Prop := match fs with
  | [] => d = none
  | _ => ∃ dx ws, d = some dx ∧ H dx = some (.xd ws) ∧ ws.map (·.1) = fs.map (·.1) ∧ RDs K g H (fs.map (·.2)) (ws.map (·.2))
/-- what a result brings, from the ghost g and the heap H on -/
def Post {α β : Type} (K : Frag) (W : WX) (g : Gh) (H : Hp) (σ : L2.St) (rel : Gh → Hp → α → β → Prop) (r : R α) (Q : β → Hp → Prop) : Prop := match r with
  | .ok a s' => ∀ g' H' b, Stp g H g' H' → Rel K g' s' H' → rel g' H' a b → Q b H'
  | .exc c fs s' => ∀ g' H' d, Stp g H g' H' → Rel K g' s' H' → XF K g' H' fs d → W (.ref (He.ga K c)) d σ H'
  | .bad => False
section
variable {α β α' β' : Type} {K : Frag} {W : WX} {g : Gh} {H : Hp} {σ : L2.St} {rel : Gh → Hp → α → β → Prop} {rel' : Gh → Hp → α' → β' → Prop}
theorem Post.later {g1 : Gh} {H1 : Hp} {r : R α} {Q : β → Hp → Prop} (st : Stp g H g1 H1) (h : Post K W g H σ rel r Q) : Post K W g1 H1 σ rel r Q := by
  cases r with
  | ok a s' => exact fun g' H' b st' R q => h g' H' b (st.trans st') R q
  | exc c fs s' => exact fun g' H' d st' R q => h g' H' d (st.trans st') R q
  | bad => exact h
theorem Post.imp {r : R α} {Q Q' : β → Hp → Prop} (h : Post K W g H σ rel r Q) (i : ∀ b H', Q b H' → Q' b H') : Post K W g H σ rel r Q' := by
  cases r with
  | ok a s' => exact fun g' H' b st R q => i b H' (h g' H' b st R q)
  | exc c fs s' => exact h
  | bad => exact h
theorem Post.bind {r : R α} {f : α → S → R α'} {Q : β' → Hp → Prop} (h : Post K W g H σ rel' (bd r f) Q) :
    Post K W g H σ rel r (fun b H1 => ∃ g1 a s1, Stp g H g1 H1 ∧ Rel K g1 s1 H1 ∧ rel g1 H1 a b ∧ r = .ok a s1 ∧ Post K W g1 H1 σ rel' (f a s1) Q) := by
  cases r with
  | ok a s' => exact fun g' H' b st R q => ⟨g', a, s', st, R, q, rfl, Post.later st h⟩
  | exc c fs s' => exact h
  | bad => exact h
end
/-- the slots -/
def RE (K : Frag) (g : Gh) (H : Hp) (env : Env) (σ : L2.St) : Prop := env.length = σ.length ∧ ∀ (i : Nat) (d : D), env[i]? = some (some d) → ∃ v, σ[i]? = some (some v) ∧ RD K g H d v
theorem RE.mono {K : Frag} {g g' : Gh} {H H' : Hp} {env : Env} {σ : L2.St} (st : Stp0 g H g' H') (h : RE K g H env σ) : RE K g' H' env σ :=
  ⟨h.1, fun i d e => let ⟨v, h1, h2⟩ := h.2 i d e; ⟨v, h1, RD.mono st d v h2⟩⟩
theorem RE.set {K : Frag} {g : Gh} {H : Hp} {env : Env} {σ : L2.St} {d : D} {v : V} (h : RE K g H env σ) (i : Nat) (r : RD K g H d v) : RE K g H (env.set i (some d)) (σ.set i (some v)) := by
  refine ⟨by rw [List.length_set, List.length_set]; exact h.1, fun j e hj => ?_⟩
  by_cases hi : i = j
  · subst hi
    by_cases hl : i < env.length
    · rw [List.getElem?_set_self hl] at hj
      cases hj
      exact ⟨v, List.getElem?_set_self (by rw [← h.1]; exact hl), r⟩
    · rw [List.getElem?_eq_none (by simpa using hl)] at hj; cases hj
  · rw [List.getElem?_set_ne hi] at hj ⊢
    exact h.2 j e hj
theorem RE.unset {K : Frag} {g : Gh} {H : Hp} {env : Env} {σ : L2.St} (h : RE K g H env σ) (i : Nat) : RE K g H (env.set i none) (σ.set i none) := by
  refine ⟨by rw [List.length_set, List.length_set]; exact h.1, fun j e hj => ?_⟩
  by_cases hi : i = j
  · subst hi
    by_cases hl : i < env.length
    · rw [List.getElem?_set_self hl] at hj; cases hj
    · rw [List.getElem?_eq_none (by simpa using hl)] at hj; cases hj
  · rw [List.getElem?_set_ne hi] at hj ⊢
    exact h.2 j e hj
abbrev ME (α : Type) := Env → S → R α
/-- the reading of an expression by its meaning -/
def TX {α β : Type} (K : Frag) (W : WX) (rel : Gh → Hp → α → β → Prop) (m : ME α) : L2.St → Hp → (β → Hp → Prop) → Prop := fun σ H Q =>
  ∃ g s env, Rel K g s H ∧ RE K g H env σ ∧ Post K W g H σ rel (m env s) Q
abbrev Eqr {α : Type} : Gh → Hp → α → α → Prop := fun _ _ a b => a = b
abbrev TE' (K : Frag) (W : WX) (m : ME D) : TE := TX K W (RD K) m
abbrev TT' (K : Frag) (W : WX) (m : ME Bool) : TT := TX K W Eqr m
abbrev TA' (K : Frag) (W : WX) (m : ME (List D)) : TA := TX K W (RDs K) m
abbrev PX (X : Cx) (W : WX) (e : Expr) (m : ME D) : Prop := PE X e (TE' X.K W m)
abbrev PB (X : Cx) (W : WX) (e : Expr) (m : ME Bool) : Prop := PT X e (TT' X.K W m)
abbrev PL (X : Cx) (W : WX) (es : List Expr) (m : ME (List D)) : Prop := PA X es (TA' X.K W m)
theorem PE.imp {X : Cx} {e : Expr} {t t' : TE} (h : PE X e t) (i : ∀ σ H Q, t' σ H Q → t σ H Q) : PE X e t' := ⟨fun pins s σ H Q I q => h.run pins s σ H Q I (i σ H Q q)⟩
theorem PT.imp {X : Cx} {e : Expr} {t t' : TT} (h : PT X e t) (i : ∀ σ H Q, t' σ H Q → t σ H Q) : PT X e t' := ⟨fun pins s σ H Q I q => h.run pins s σ H Q I (i σ H Q q)⟩
theorem PW.imp {X : Cx} {e : Expr} {t t' : TT} (h : PW X e t) (i : ∀ σ H Q, t' σ H Q → t σ H Q) : PW X e t' := ⟨fun wh pins s σ H Q I q => h.run wh pins s σ H Q I (i σ H Q q)⟩
theorem PA.imp {X : Cx} {e : List Expr} {t t' : TA} (h : PA X e t) (i : ∀ σ H Q, t' σ H Q → t σ H Q) : PA X e t' := ⟨fun pos pins s σ H Q I q => h.run pos pins s σ H Q I (i σ H Q q)⟩
theorem PS.imp {X : Cx} {e : Stmt} {t t' : TS} (h : PS X e t) (i : ∀ σ H D, t' D σ H → t D σ H) : PS X e t' := ⟨fun pins s σ H D I q => h.run pins s σ H D I (i σ H D q)⟩
theorem PSs.imp {X : Cx} {e : List Stmt} {t t' : TS} (h : PSs X e t) (i : ∀ σ H D, t' D σ H → t D σ H) : PSs X e t' := ⟨fun pins s σ H D I q => h.run pins s σ H D I (i σ H D q)⟩
section
variable {α β α' β' : Type} {K : Frag} {W : WX} {σ : L2.St} {rel : Gh → Hp → α → β → Prop} {rel' : Gh → Hp → α' → β' → Prop}
/-- a part is evaluated, then the rest -/
theorem TX.bind {H : Hp} {m : ME α} {f : Env → α → S → R α'} {Q : β' → Hp → Prop} (h : TX K W rel' (fun env s => bd (m env s) (f env)) σ H Q) :
    TX K W rel m σ H (fun b H1 => ∃ g1 a s1 env, Rel K g1 s1 H1 ∧ RE K g1 H1 env σ ∧ rel g1 H1 a b ∧ Post K W g1 H1 σ rel' (f env a s1) Q) := by
  obtain ⟨g, s, env, R, E, p⟩ := h
  exact ⟨g, s, env, R, E, (Post.bind (rel := rel) p).imp fun b H1 ⟨g1, a, s1, st, R1, r1, _, q⟩ => ⟨g1, a, s1, env, R1, E.mono st.toStp0, r1, q⟩⟩
theorem TX.mk {H : Hp} {g : Gh} {s : S} {env : Env} {m : ME α} {Q : β → Hp → Prop} (R : Rel K g s H) (E : RE K g H env σ) (p : Post K W g H σ rel (m env s) Q) : TX K W rel m σ H Q := ⟨g, s, env, R, E, p⟩
theorem TX.imp {H : Hp} {m : ME α} {Q Q' : β → Hp → Prop} (h : TX K W rel m σ H Q) (i : ∀ b H', Q b H' → Q' b H') : TX K W rel m σ H Q' := by
  obtain ⟨g, s, env, R, E, p⟩ := h
  exact ⟨g, s, env, R, E, p.imp i⟩
end
/-! ### by values -/
section
variable {X : Cx} {W : WX} {a b c : Expr} {pos : Pos} {ma mb mc : ME D}
/-- two values: the reading r of the operator asks what f brings -/
def Op2 (K : Frag) (r : R2) (f : D → D → S → R D) : Prop := ∀ (W : WX) (g : Gh) (s : S) (H : Hp) (σ : L2.St) (x y : D) (v w : V) (Q : VK), Rel K g s H → RD K g H x v → RD K g H y w → Post K W g H σ (RD K) (f x y s) Q → r v w H Q
def op2M (f : D → D → S → R D) (ma mb : ME D) : ME D := fun env s => bd (ma env s) fun x s1 => bd (mb env s1) fun y s2 => f x y s2
theorem tOp_of {K : Frag} {r : R2} {f : D → D → S → R D} (hf : Op2 K r f) (σ : L2.St) (H : Hp) (Q : VK) (h : TE' K W (op2M f ma mb) σ H Q) : tOp r (TE' K W ma) (TE' K W mb) σ H Q := by
  refine (TX.bind (rel := RD K) h).imp fun v H1 ⟨g1, x, s1, env, R1, E1, r1, p1⟩ => ?_
  refine TX.mk (g := g1) (s := s1) (env := env) R1 E1 ((Post.bind (rel := RD K) p1).imp fun w H2 ⟨g2, y, s2, st, R2, r2, _, p2⟩ => ?_)
  exact hf W g2 s2 H2 σ x y v w Q R2 (RD.mono st.toStp0 x v r1) r2 p2
theorem px_op {op : Operator} {r : R2} {f : D → D → S → R D} (ho : OpR X (binaryOp op) r) (hf : Op2 X.K r f) (ha : PX X W a ma) (hb : PX X W b mb) : PX X W (.BinOp a op b pos) (op2M f ma mb) := PE.imp (pe_op ho ha hb) (tOp_of hf)
theorem px_cmp {op : CmpOp} {r : R2} {f : D → D → S → R D} (ho : OpR X (compareOp op) r) (hf : Op2 X.K r f) (hm : behindInMarks op b = false) (ha : PX X W a ma) (hb : PX X W b mb) : PX X W (.Compare a [op] [b] pos) (op2M f ma mb) := PE.imp (pe_cmpR ho ha hb hm) (tOp_of hf)
theorem px_ix {r : R2} {f : D → D → S → R D} (hr : IxR X r) (hf : Op2 X.K r f) (hs : PlainIx b) (ha : PX X W a ma) (hb : PX X W b mb) : PX X W (.Subscript a b pos) (op2M f ma mb) := PE.imp (pe_ix hr ha hb hs) (tOp_of hf)
/-- a test of a value that is a bool -/
def boolM (m : ME D) : ME Bool := fun env s => bd (m env s) fun x s1 => match x with
  | .bl k => .ok k s1
  | _ => .bad
theorem tTest_of {K : Frag} {t : TE} {m : ME D} (ht : ∀ σ H Q, TE' K W m σ H Q → t σ H Q) (σ : L2.St) (H : Hp) (Q : Bool → Hp → Prop) (h : TT' K W (boolM m) σ H Q) : tTest t σ H Q := by
  refine ht _ _ _ ((TX.bind (rel := RD K) h).imp fun v H1 ⟨g1, x, s1, env, R1, E1, r1, p1⟩ => ?_)
  cases x with
  | bl k => exact ⟨k, r1, p1 g1 H1 k (.refl _ _) R1 rfl⟩
  | _ => exact p1.elim
theorem pb_cmp {op : CmpOp} {r : R2} {f : D → D → S → R D} (ho : OpR X (compareOp op) r) (hf : Op2 X.K r f) (hm : behindInMarks op b = false) (ha : PX X W a ma) (hb : PX X W b mb) : PB X W (.Compare a [op] [b] pos) (boolM (op2M f ma mb)) :=
  PT.imp (pt_cmpR ho ha hb hm) (tTest_of (tOp_of hf))
/-- a < b < c -/
def chainM (f f' : D → D → S → R D) (ma mb mc : ME D) : ME D := fun env s => bd (ma env s) fun x s1 => bd (mb env s1) fun y s2 => bd (f x y s2) fun z s3 => match z with
  | .bl true => bd (mc env s3) fun w s4 => f' y w s4
  | .bl false => .ok (.bl false) s3
  | _ => .bad
/-- one value -/
def op1M (f : D → S → R D) (ma : ME D) : ME D := fun env s => bd (ma env s) f
end
end Co
namespace Co
open PySem PySem.Spec PyProof.Rows L2
/-- a new list: kept as a tree, or (m) an object of the heap -/
def mkL (m : Bool) (ds : List D) : S → R D := fun s => if ds.length ≤ LINE then (if m then .ok (.ref s.next) (s.alloc (.lst ds)) else .ok (.lv ds) s) else .bad
def mkT (ds : List D) : S → R D := fun s => if ds.length ≤ LINE then .ok (.tup ds) s else .bad
section
variable {K : Frag} {W : WX} {g : Gh} {s : S} {H : Hp} {σ : L2.St} {Q : VK}
theorem post_mkL {m : Bool} {ds : List D} {vs : List V} (R : Rel K g s H) (r : RDs K g H ds vs) (h : Post K W g H σ (RD K) (mkL m ds s) Q) :
    vs.length ≤ sizeLine ∧ ∀ p, H p = none → Q (.ref p) (upd H p (.lst vs)) := by
  unfold mkL at h
  by_cases hl : ds.length ≤ LINE
  · rw [if_pos hl] at h
    refine ⟨by rw [← r.length]; exact hl, fun p hp => ?_⟩
    cases m with
    | false => exact h (g.frz p) _ _ (stp_frz R hp) (R.frz hp) ⟨p, vs, rfl, .inr rfl, upd_same, RDs.mono (stp_frz R hp).toStp0 _ _ r⟩
    | true => exact h (g.add s.next p) _ _ (stp_add R hp) (R.add hp ⟨vs, upd_same, RDs.mono (stp_add R hp).toStp0 _ _ r⟩) ⟨p, rfl, if_pos rfl⟩
  · rw [if_neg hl] at h; exact h.elim
theorem post_mkT {ds : List D} {vs : List V} (R : Rel K g s H) (r : RDs K g H ds vs) (h : Post K W g H σ (RD K) (mkT ds s) Q) :
    vs.length ≤ sizeLine ∧ ∀ p, H p = none → Q (.ref p) (upd H p (.tup vs)) := by
  unfold mkT at h
  by_cases hl : ds.length ≤ LINE
  · rw [if_pos hl] at h
    exact ⟨by rw [← r.length]; exact hl, fun p hp => h g _ _ (stp_new R hp) (R.new hp) ⟨p, vs, rfl, upd_same, RDs.mono (stp_new R hp).toStp0 _ _ r⟩⟩
  · rw [if_neg hl] at h; exact h.elim
theorem post_ok {d : D} {v : V} (R : Rel K g s H) (r : RD K g H d v) (h : Post K W g H σ (RD K) (.ok d s) Q) : Q v H := h g H v (.refl _ _) R r
/-- a list that is tracked -/
def trkOf (d : D) (s : S) : Option (List D) := match d with
  | .lv ds => some ds
  | .ref a => match s.heap a with
    | some (.lst ds) => some ds
    | _ => none
  | _ => none
theorem trk_ok {d : D} {ds : List D} {v : V} (R : Rel K g s H) (r : RD K g H d v) (e : trkOf d s = some ds) : ∃ p vs, v = .ref p ∧ H p = some (.lst vs) ∧ RDs K g H ds vs := by
  cases d with
  | lv xs =>
    cases e
    obtain ⟨p, vs, e1, _, e2, e3⟩ := r
    exact ⟨p, vs, e1, e2, e3⟩
  | ref a =>
    obtain ⟨p, e1, e2⟩ := r
    have e' : (match s.heap a with | some (.lst ds) => some ds | _ => none) = some ds := e
    split at e'
    · rename_i xs hx
      cases e'
      obtain ⟨q, h1, _, vs, h3, h4⟩ := R.obj a _ hx
      rw [e2] at h1; cases h1
      exact ⟨p, vs, e1, h3, h4⟩
    · cases e'
  | _ => cases e
theorem lst_ok {d : D} {ds : List D} {v : V} (R : Rel K g s H) (r : RD K g H d v) (e : lstOf d s = some ds) : ∃ p vs, v = .ref p ∧ SqL K H p vs ∧ RDs K g H ds vs := by
  cases d with
  | sc xs =>
    cases e
    obtain ⟨p, vs, e1, e2, e3⟩ := r
    exact ⟨p, vs, e1, e2.seq, e3⟩
  | lv xs =>
    obtain ⟨p, vs, e1, e2, e3⟩ := trk_ok (d := .lv xs) R r e
    exact ⟨p, vs, e1, .of e2, e3⟩
  | ref a =>
    obtain ⟨p, vs, e1, e2, e3⟩ := trk_ok (d := .ref a) R r e
    exact ⟨p, vs, e1, .of e2, e3⟩
  | _ => cases e
theorem tup_ok {ds : List D} {v : V} (r : RD K g H (.tup ds) v) : ∃ p vs, v = .ref p ∧ H p = some (.tup vs) ∧ RDs K g H ds vs := r
end
/-! ### arithmetic -/
def addF (m : Bool) (x y : D) (s : S) : R D := match x, y with
  | .int i, .int j => .ok (.int (i + j)) s
  | .str a, .str b => if a.length + b.length ≤ LINE then .ok (.str (a ++ b)) s else .bad
  | .tup a, .tup b => if a.length + b.length ≤ LINE then .ok (.tup (a ++ b)) s else .bad
  | x, y => match trkOf x s, trkOf y s with
    | some a, some b => mkL m (a ++ b) s
    | _, _ => .bad
def rAddF (K : Frag) : R2 := fun x y H Q => rI0 (fun i j => .int (i + j)) x y H Q ∨ (∃ i j, x = .str i ∧ y = .str j ∧ i.length + j.length ≤ sizeLine ∧ Q (.str (i ++ j)) H) ∨ rCatA K x y H Q ∨ rCat x y H Q
theorem or_add {X : Cx} : OpR X (binaryOp .Add) (rAddF X.K) := OpR.or op_add (OpR.or op_add_str (OpR.or op_catA op_cat))
theorem RDs.nil_iff {K : Frag} {g : Gh} {H : Hp} {ds : List D} {vs : List V} (h : RDs K g H ds vs) : vs = [] ↔ ds = [] := by
  have := h.length
  constructor <;> intro e <;> subst e <;> simp at this
  · exact this
  · exact List.length_eq_zero_iff.mp this.symm
theorem op2_add {K : Frag} {m : Bool} : Op2 K (rAddF K) (addF m) := by
  intro W g s H σ x y v w Q R rx ry h
  have gen : (match trkOf x s, trkOf y s with | some a, some b => Post K W g H σ (RD K) (mkL m (a ++ b) s) Q | _, _ => False) → rAddF K v w H Q := by
    intro h
    split at h
    · rename_i a b ha hb
      obtain ⟨p, vs, rfl, e2, e3⟩ := trk_ok R rx ha
      obtain ⟨q, us, rfl, f2, f3⟩ := trk_ok R ry hb
      obtain ⟨z, k⟩ := post_mkL R (e3.append f3) h
      exact .inr (.inr (.inr ⟨p, q, vs, us, rfl, rfl, e2, f2, by rw [← List.length_append]; exact z, k⟩))
    · exact h.elim
  have other : addF m x y s = (match trkOf x s, trkOf y s with | some a, some b => mkL m (a ++ b) s | _, _ => Co.R.bad) → rAddF K v w H Q := fun e => by
    rw [e] at h
    refine gen ?_
    split at h <;> first | exact h | exact h.elim
  cases x with
  | int i =>
    cases y with
    | int j =>
      cases rx; cases ry
      exact .inl ⟨i, j, rfl, rfl, post_ok (d := .int (i + j)) R rfl h⟩
    | _ => exact other rfl
  | str i =>
    cases y with
    | str j =>
      cases rx; cases ry
      have h' : Post K W g H σ (RD K) (if i.length + j.length ≤ LINE then .ok (.str (i ++ j)) s else .bad) Q := h
      by_cases hl : i.length + j.length ≤ LINE
      · rw [if_pos hl] at h'
        exact .inr (.inl ⟨i, j, rfl, rfl, hl, post_ok (d := .str (i ++ j)) R rfl h'⟩)
      · rw [if_neg hl] at h'; exact h'.elim
    | _ => exact other rfl
  | tup xs =>
    cases y with
    | tup ys =>
      have h' : Post K W g H σ (RD K) (if xs.length + ys.length ≤ LINE then .ok (.tup (xs ++ ys)) s else .bad) Q := h
      obtain ⟨p, vs, rfl, e2, e3⟩ := tup_ok rx
      obtain ⟨q, us, rfl, f2, f3⟩ := tup_ok ry
      by_cases hl : xs.length + ys.length ≤ LINE
      · rw [if_pos hl] at h'
        refine .inr (.inr (.inl ⟨p, q, vs, us, rfl, rfl, .of e2, .of f2, by rw [← e3.length, ← f3.length]; exact hl, fun e => ?_, fun _ e => ?_, fun _ _ a ha => ?_⟩))
        · have e' := e3.nil_iff.mp e
          subst e'
          exact post_ok (d := .tup ([] ++ ys)) R ⟨q, us, rfl, f2, f3⟩ h'
        · have e' := f3.nil_iff.mp e
          subst e'
          rw [List.append_nil] at h'
          exact post_ok (d := .tup xs) R ⟨p, vs, rfl, e2, e3⟩ h'
        · have hl' : (xs ++ ys).length ≤ LINE := by rw [List.length_append]; exact hl
          refine (post_mkT (W := W) (σ := σ) (Q := Q) R (e3.append f3) ?_).2 a ha
          unfold mkT
          rw [if_pos hl']
          exact h'
      · rw [if_neg hl] at h'; exact h'.elim
    | _ => exact other rfl
  | lv xs => cases y <;> exact other rfl
  | ref a => cases y <;> exact other rfl
  | sc xs => cases y <;> exact other rfl
  | non => cases y <;> exact other rfl
  | bl b => cases y <;> exact other rfl
  | dv ks ds => cases y <;> exact other rfl
  | ct ds => cases y <;> exact other rfl
/-- two ints -/
def intF (C : Int → Int → Prop) [∀ i j, Decidable (C i j)] (k : Int → Int → D) (x y : D) (s : S) : R D := match x, y with
  | .int i, .int j => if C i j then .ok (k i j) s else .bad
  | _, _ => .bad
theorem op2_int {K : Frag} {C : Int → Int → Prop} [∀ i j, Decidable (C i j)] {k : Int → Int → D} {k' : Int → Int → V} (hk : ∀ g H i j, RD K g H (k i j) (k' i j)) : Op2 K (rI C k') (intF C k) := by
  intro W g s H σ x y v w Q R rx ry h
  cases x with
  | int i =>
    cases y with
    | int j =>
      cases rx; cases ry
      have h' : Post K W g H σ (RD K) (if C i j then .ok (k i j) s else .bad) Q := h
      by_cases hc : C i j
      · rw [if_pos hc] at h'
        exact ⟨i, j, rfl, rfl, hc, post_ok R (hk g H i j) h'⟩
      · rw [if_neg hc] at h'; exact h'.elim
    | _ => exact h.elim
  | _ => cases y <;> exact h.elim
def CTrue (i j : Int) : Prop := True
instance (i j : Int) : Decidable (CTrue i j) := .isTrue trivial
theorem OpR.ci {X : Cx} {f : Value → Value → Sem Value} {k : Int → Int → V} (h : OpR X f (rI0 k)) : OpR X f (rI CTrue k) := fun pins s σ H x y v u Q I rx ry ⟨i, j, e1, e2, _, q⟩ => h pins s σ H x y v u Q I rx ry ⟨i, j, e1, e2, q⟩
noncomputable instance (i j : Int) : Decidable (CMul i j) := Classical.propDecidable _
noncomputable instance (i j : Int) : Decidable (CDiv i j) := Classical.propDecidable _
noncomputable instance (i j : Int) : Decidable (CPow i j) := Classical.propDecidable _
def subF := intF CTrue fun i j => .int (i - j)
noncomputable def mulF := intF CMul fun i j => .int (i * j)
def modF := intF (fun _ j => 0 < j) fun i j => .int (i % j)
noncomputable def fdivF := intF CDiv fun i j => .int (i / j)
noncomputable def powF := intF CPow fun i j => .int (i ^ j.toNat)
def ltF := intF CTrue fun i j => .bl (decide (i < j))
def leF := intF CTrue fun i j => .bl (decide (i ≤ j))
def gtF := intF CTrue fun i j => .bl (decide (j < i))
def geF := intF CTrue fun i j => .bl (decide (j ≤ i))
/-! ### equality -/
/-- of two that are no objects: none where it is not spoken of -/
def scalEq : D → D → Option Bool
  | .non, .non => some true
  | .int i, .int j => some (decide (i = j))
  | .str i, .str j => some (decide (i = j))
  | .bl i, .bl j => some (decide (i = j))
  | .non, .int _ => some false | .int _, .non => some false | .non, .bl _ => some false | .bl _, .non => some false | .non, .str _ => some false | .str _, .non => some false
  | .int _, .str _ => some false | .str _, .int _ => some false | .bl _, .str _ => some false | .str _, .bl _ => some false
  | _, _ => none
def eqvD (x y : D) (s : S) : Option Bool := match scalEq x y with
  | some k => some k
  | none => match pyT s x, pyT s y with
    | some p, some q => if SeqAt.shaped p = true ∧ SeqAt.shaped q = true then some (PyData.eqv p q) else none
    | _, _ => none
def eqF (neg : Bool) (x y : D) (s : S) : R D := match eqvD x y s with
  | some k => .ok (.bl (if neg then !k else k)) s
  | none => .bad
theorem scal_ok {K : Frag} {g : Gh} {H : Hp} {x y : D} {v w : V} {k : Bool} (rx : RD K g H x v) (ry : RD K g H y w) (e : scalEq x y = some k) : scal v w = true ∧ k = decide (v = w) := by
  cases x <;> cases y <;> first
    | (cases e; done)
    | (cases e; cases rx; cases ry; exact ⟨rfl, by simp⟩)
    | skip
section
variable {K : Frag} {g : Gh} {H : Hp}
mutual
theorem dp_of : ∀ (d : D) (v : V) (p : PyData), RD K g H d v → pyD d = some p → p.canLay0 = true → Dp K H v p
  | .non, v, p, r, e, c => by cases e; cases r; exact .non
  | .bl b, v, p, r, e, c => by cases e; cases r; exact .bl b
  | .int b, v, p, r, e, c => by cases e; cases r; exact .int b
  | .str b, v, p, r, e, c => by cases e; cases r; exact .str b
  | .tup ds, v, p, r, e, c => by
    obtain ⟨ps, e1, e2⟩ := Option.map_eq_some_iff.mp (show (pyL ds).map PyData.tuple = some p from e)
    subst e2
    obtain ⟨q, vs, rfl, h1, h2⟩ := r
    exact .tup (.of h1) (dps_of ds vs ps h2 e1 c)
  | .ct ds, v, p, r, e, c => by
    obtain ⟨ps, e1, e2⟩ := Option.map_eq_some_iff.mp (show (pyL ds).map PyData.tuple = some p from e)
    subst e2
    obtain ⟨q, vs, rfl, h1, h2⟩ := r
    exact .tup h1.tup (dps_of ds vs ps h2 e1 c)
  | .lv ds, v, p, r, e, c => by
    obtain ⟨ps, e1, e2⟩ := Option.map_eq_some_iff.mp (show (pyL ds).map PyData.list = some p from e)
    subst e2
    obtain ⟨q, vs, rfl, _, h1, h2⟩ := r
    exact .lst (.of h1) (dps_of ds vs ps h2 e1 c)
  | .sc ds, v, p, r, e, c => by
    obtain ⟨ps, e1, e2⟩ := Option.map_eq_some_iff.mp (show (pyL ds).map PyData.list = some p from e)
    subst e2
    obtain ⟨q, vs, rfl, h1, h2⟩ := r
    exact .lst h1.seq (dps_of ds vs ps h2 e1 c)
  | .dv ks ds, v, p, r, e, c => by
    have e' : (if ks.length = ds.length then (pyL ds).map fun ps => PyData.dict ((ks.map pyKey).zip ps) else none) = some p := e
    split at e'
    · obtain ⟨ps, e1, e2⟩ := Option.map_eq_some_iff.mp e'
      subst e2
      cases c
    · cases e'
  | .ref a, v, p, r, e, c => by cases e
theorem dps_of : ∀ (ds : List D) (vs : List V) (ps : List PyData), RDs K g H ds vs → pyL ds = some ps → PyData.canLayAll0 ps = true → DpAll K H vs ps
  | [], vs, ps, r, e, c => by cases e; cases r; exact .nil
  | d :: ds, vs, ps, r, e, c => by
    obtain ⟨v, us, rfl, h1, h2⟩ := r
    have e' : (match pyD d, pyL ds with | some p, some ps => some (p :: ps) | _, _ => none) = some ps := e
    split at e'
    · rename_i p qs hp hq
      cases e'
      have c' : (p.canLay0 && PyData.canLayAll0 qs) = true := c
      obtain ⟨c1, c2⟩ := Bool.and_eq_true_iff.mp c'
      exact .cons (dp_of d v p h1 hp c1) (dps_of ds us qs h2 hq c2)
    · cases e'
end
theorem dpT_of {s : S} (R : Rel K g s H) {d : D} {v : V} {p : PyData} (r : RD K g H d v) (e : pyT s d = some p) (c : p.canLay0 = true) : Dp K H v p := by
  cases d with
  | ref a =>
    obtain ⟨q, rfl, hq⟩ := r
    have e' : (match s.heap a with
      | some (.lst ds) => (pyL ds).map PyData.list
      | some (.dK kvs) => (pyL (kvs.map (·.2))).map fun ps => PyData.dict ((kvs.map fun kv => pyKey kv.1).zip ps)
      | _ => none) = some p := e
    split at e'
    · rename_i ds ha
      obtain ⟨ps, e1, e2⟩ := Option.map_eq_some_iff.mp e'
      subst e2
      obtain ⟨q', h1, _, vs, h3, h4⟩ := R.obj a _ ha
      rw [hq] at h1; cases h1
      exact .lst (.of h3) (dps_of ds vs ps h4 e1 c)
    · obtain ⟨ps, e1, e2⟩ := Option.map_eq_some_iff.mp e'
      subst e2
      cases c
    · cases e'
  | _ => exact dp_of _ _ _ r e c
end
def rEqF (K : Frag) (neg : Bool) : R2 := fun x y H Q => (scal x y = true ∧ Q (.bl (if neg then !decide (x = y) else decide (x = y))) H) ∨ ∃ d e, Dp K H x d ∧ Dp K H y e ∧ SeqAt.shaped d = true ∧ SeqAt.shaped e = true ∧ Q (.bl (if neg then !PyData.eqv d e else PyData.eqv d e)) H
theorem or_eq {X : Cx} (hu : X.A.units + 64 < cLine) : OpR X (compareOp .Eq) (rEqF X.K false) := OpR.or op_eq (op_eqD hu)
theorem or_ne {X : Cx} (hu : X.A.units + 64 < cLine) : OpR X (compareOp .NotEq) (rEqF X.K true) := OpR.or op_ne (op_neD hu)
theorem op2_eq {K : Frag} {neg : Bool} : Op2 K (rEqF K neg) (eqF neg) := by
  intro W g s H σ x y v w Q R rx ry h
  unfold eqF eqvD at h
  cases e : scalEq x y with
  | some k =>
    rw [e] at h
    obtain ⟨h1, h2⟩ := scal_ok rx ry e
    subst h2
    exact .inl ⟨h1, post_ok (d := .bl _) R rfl h⟩
  | none =>
    rw [e] at h
    cases ep : pyT s x with
    | none => rw [ep] at h; exact h.elim
    | some p =>
      cases eq : pyT s y with
      | none => rw [ep, eq] at h; exact h.elim
      | some q =>
        rw [ep, eq] at h
        by_cases c : SeqAt.shaped p = true ∧ SeqAt.shaped q = true
        · simp only [if_pos c] at h
          exact .inr ⟨p, q, dpT_of R rx ep (SeqAt.canLay_of_shaped c.1), dpT_of R ry eq (SeqAt.canLay_of_shaped c.2), c.1, c.2, post_ok (d := .bl _) R rfl h⟩
        · simp only [if_neg c] at h
          exact h.elim
/-- is None -/
def isNonD : D → Bool
  | .non => true
  | _ => false
def isNF (neg : Bool) (x y : D) (s : S) : R D := match y with
  | .non => .ok (.bl (if neg then !isNonD x else isNonD x)) s
  | _ => .bad
theorem non_iff {K : Frag} {g : Gh} {H : Hp} {x : D} {v : V} (r : RD K g H x v) : decide (v = V.non) = isNonD x := by
  cases x with
  | non => cases r; rfl
  | bl b => cases r; rfl
  | int b => cases r; rfl
  | str b => cases r; rfl
  | tup ds => obtain ⟨p, vs, rfl, _⟩ := r; rfl
  | ct ds => obtain ⟨p, vs, rfl, _⟩ := r; rfl
  | lv ds => obtain ⟨p, vs, rfl, _⟩ := r; rfl
  | sc ds => obtain ⟨p, vs, rfl, _⟩ := r; rfl
  | dv ks ds => obtain ⟨p, vs, rfl, _⟩ := r; rfl
  | ref a => obtain ⟨p, rfl, _⟩ := r; rfl
theorem op2_is {K : Frag} : Op2 K (fun x y H Q => y = .non ∧ Q (.bl (decide (x = .non))) H) (isNF false) := by
  intro W g s H σ x y v w Q R rx ry h
  cases y with
  | non =>
    cases ry
    refine ⟨rfl, ?_⟩
    rw [non_iff rx]
    exact post_ok (d := .bl _) R rfl h
  | _ => exact h.elim
theorem op2_isnot {K : Frag} : Op2 K (fun x y H Q => y = .non ∧ Q (.bl (!decide (x = .non))) H) (isNF true) := by
  intro W g s H σ x y v w Q R rx ry h
  cases y with
  | non =>
    cases ry
    refine ⟨rfl, ?_⟩
    rw [non_iff rx]
    exact post_ok (d := .bl _) R rfl h
  | _ => exact h.elim
end Co
namespace Co
open PySem PySem.Spec PyProof.Rows L2
/-! ### a dict is read -/
section
variable {K : Frag} {W : WX} {g : Gh} {s : S} {H : Hp} {σ : L2.St} {Q : VK}
theorem getK_pair {κ : Type} [DecidableEq κ] : ∀ {kvs : List (κ × D)} {ws : List (κ × V)} (k : κ), ws.map (·.1) = kvs.map (·.1) → RDs K g H (kvs.map (·.2)) (ws.map (·.2)) →
    (getK kvs k = none → valV ws k = none) ∧ ∀ d, getK kvs k = some d → ∃ v, valV ws k = some v ∧ RD K g H d v
  | [], [], k, _, _ => ⟨fun _ => rfl, fun d e => by cases e⟩
  | [], _ :: _, k, e, _ => by simp at e
  | _ :: _, [], k, e, _ => by simp at e
  | (a, d) :: kvs, (b, v) :: ws, k, e, r => by
    simp only [List.map_cons, List.cons.injEq] at e
    obtain ⟨e1, e2⟩ := e
    subst e1
    obtain ⟨v', r', e3, h1, h2⟩ := r
    simp only [List.map_cons, List.cons.injEq] at e3
    obtain ⟨e4, e5⟩ := e3
    subst e4 e5
    obtain ⟨i1, i2⟩ := getK_pair k e2 h2
    by_cases h : b = k
    · have g1 : getK ((b, d) :: kvs) k = some d := by simp [getK, List.find?_cons, h]
      have g2 : valV ((b, v) :: ws) k = some v := valV_pos h
      refine ⟨fun z => ?_, fun d' z => ?_⟩
      · rw [g1] at z; cases z
      · rw [g1] at z; cases z; exact ⟨v, g2, h1⟩
    · have g1 : getK ((b, d) :: kvs) k = getK kvs k := by simp [getK, List.find?_cons, h]
      have g2 : valV ((b, v) :: ws) k = valV ws k := valV_neg h
      rw [g1, g2]
      exact ⟨i1, i2⟩
theorem keyOf_ok {d : D} {v : V} {k : Key} (r : RD K g H d v) (e : keyOf d = some k) : v = kV k := by
  cases d with
  | int i => cases e; cases r; rfl
  | str x => cases e; cases r; rfl
  | _ => cases e
theorem keysOf_ok : ∀ {ds : List D} {vs : List V} {k : List Key}, RDs K g H ds vs → keysOf ds = some k → vs = k.map kV
  | [], vs, k, r, e => by cases e; cases r; rfl
  | d :: ds, vs, k, r, e => by
    obtain ⟨v, us, rfl, h1, h2⟩ := r
    have e' : (match keyOf d, keysOf ds with | some k, some ks => some (k :: ks) | _, _ => none) = some k := e
    split at e'
    · rename_i k1 ks h3 h4
      cases e'
      rw [keyOf_ok h1 h3, keysOf_ok h2 h4]; rfl
    · cases e'
/-- a dict with int and text keys: where it stands, what is read -/
theorem dic_ok {d : D} {v : V} {kvs : List (Key × D)} (R : Rel K g s H) (r : RD K g H d v) (e : dicOf d s = some kvs) :
    ∃ p ws, v = .ref p ∧ Rd H p (.dK ws) ∧ ws.map (·.1) = kvs.map (·.1) ∧ RDs K g H (kvs.map (·.2)) (ws.map (·.2)) := by
  cases d with
  | dv ks ds =>
    have e' : (if ks.length = ds.length then some (ks.zip ds) else none) = some kvs := e
    by_cases hl : ks.length = ds.length
    · rw [if_pos hl] at e'
      cases e'
      obtain ⟨p, ws, e1, _, e2, e3, e4⟩ := r
      refine ⟨p, ws, e1, .of e2, ?_, ?_⟩
      · rw [e3, List.map_fst_zip (by omega)]
      · rw [List.map_snd_zip (by omega)]; exact e4
    · rw [if_neg hl] at e'; cases e'
  | ref a =>
    obtain ⟨p, e1, e2⟩ := r
    have e' : (match s.heap a with | some (.dK kvs) => some kvs | some (.lk kvs) => some kvs | _ => none) = some kvs := e
    split at e'
    · rename_i ks ha
      cases e'
      obtain ⟨q, h1, _, ws, h3, h4, h5⟩ := R.obj a _ ha
      rw [e2] at h1; cases h1
      exact ⟨p, ws, e1, .of h3, h4, h5⟩
    · rename_i ks ha
      cases e'
      obtain ⟨q, h1, _, o, ws, h3, h4, h5⟩ := R.obj a _ ha
      rw [e2] at h1; cases h1
      exact ⟨p, ws, e1, .inr ⟨o, h3⟩, h4, h5⟩
    · cases e'
  | _ => cases e
def dicT (d : D) (s : S) : Option (List (List Key × D)) := match d with
  | .ref a => match s.heap a with
    | some (.dT kvs) => some kvs
    | some (.lkT kvs) => some kvs
    | _ => none
  | _ => none
theorem dicT_ok {d : D} {v : V} {kvs : List (List Key × D)} (R : Rel K g s H) (r : RD K g H d v) (e : dicT d s = some kvs) :
    ∃ p ws, v = .ref p ∧ Rd H p (.dT ws) ∧ ws.map (·.1) = kvs.map (·.1) ∧ RDs K g H (kvs.map (·.2)) (ws.map (·.2)) := by
  cases d with
  | ref a =>
    obtain ⟨p, e1, e2⟩ := r
    have e' : (match s.heap a with | some (.dT kvs) => some kvs | some (.lkT kvs) => some kvs | _ => none) = some kvs := e
    split at e'
    · rename_i ks ha
      cases e'
      obtain ⟨q, h1, _, ws, h3, h4, h5⟩ := R.obj a _ ha
      rw [e2] at h1; cases h1
      exact ⟨p, ws, e1, .of h3, h4, h5⟩
    · rename_i ks ha
      cases e'
      obtain ⟨q, h1, _, o, ws, h3, h4, h5⟩ := R.obj a _ ha
      rw [e2] at h1; cases h1
      exact ⟨p, ws, e1, .inr ⟨o, h3⟩, h4, h5⟩
    · cases e'
  | _ => cases e
/-- what a dict has at a key: none where it is no dict, or no key -/
def dget (d k : D) (s : S) : Option (Option D) := match dicOf d s with
  | some kvs => match keyOf k with
    | some k => some (getK kvs k)
    | none => none
  | none => match dicT d s with
    | some kvs => match keyT k with
      | some k => some (getK kvs k)
      | none => none
    | none => none
theorem dget_ok {d k : D} {v w : V} {o : Option D} (R : Rel K g s H) (r : RD K g H d v) (rk : RD K g H k w) (e : dget d k s = some o) :
    ∃ p ov, v = .ref p ∧ DGet H p w ov ∧ (o = none → ov = none) ∧ ∀ d, o = some d → ∃ x, ov = some x ∧ RD K g H d x := by
  unfold dget at e
  split at e
  · rename_i kvs hd
    split at e
    · rename_i k' hk
      cases e
      obtain ⟨p, ws, e1, e2, e3, e4⟩ := dic_ok R r hd
      obtain ⟨h1, h2⟩ := getK_pair k' e3 e4
      exact ⟨p, _, e1, .inl ⟨ws, k', e2, keyOf_ok rk hk, rfl⟩, h1, h2⟩
    · cases e
  · split at e
    · rename_i kvs hd
      split at e
      · rename_i k' hk
        cases e
        obtain ⟨p, ws, e1, e2, e3, e4⟩ := dicT_ok R r hd
        obtain ⟨h1, h2⟩ := getK_pair k' e3 e4
        cases k with
        | tup ds =>
          obtain ⟨q, us, rfl, f1, f2⟩ := rk
          have f3 : us = k'.map kV := keysOf_ok f2 hk
          subst f3
          exact ⟨p, _, e1, .inr ⟨ws, k', q, e2, rfl, f1, rfl⟩, h1, h2⟩
        | _ => cases hk
      · cases e
    · cases e
end
/-! ### a[b] -/
def ixF (x y : D) (s : S) : R D := match x, y with
  | .str z, .int i => match atI z.cps.toList i with
    | some c => if z.length ≤ LINE then .ok (.str ⟨#[c]⟩) s else .bad
    | none => .bad
  | x, y => match seqOf x s with
    | some ds => match y with
      | .int i => match atI ds i with
        | some d => .ok d s
        | none => .bad
      | _ => .bad
    | none => match dget x y s with
      | some (some d) => .ok d s
      | _ => .bad
def rDG : R2 := fun x y H Q => ∃ a v, x = .ref a ∧ DGet H a y (some v) ∧ Q v H
theorem ix_dict {X : Cx} (hu : X.A.units + 1 < cLine) : IxR X rDG := by
  intro value slice pins s σ H x y v u Q I rx ry h hs
  obtain ⟨a, z, rfl, hg, q⟩ := h
  cases rx
  have hT := dict_typeIs I hg
  unfold subscriptTail
  refine wpAny_bind ?_
  rw [getitemInPython_of_ne hT.not_modules]
  refine wpAny_bind (wpAny_specialOf hT PySem.F.slot_dict_getitem.lookup ?_)
  have fin : wpAny (model X.prog X.w) X.A (subscripted slice false (.ref a) u) (fun r s₃ => wpAny (model X.prog X.w) X.A (letTemporaryGo value (.ref a) r >>= fun _ => pure r) (EP X pins σ Q) X.xe s₃) X.xe s := by
    rw [hs]
    exact wpAny_operating (d_getItem hu I hg ry fun w' s3 I3 rw' => wpAny_bind (wpAny_letTemporaryGo (wpAny_pure ⟨z, H, I3, rw', q⟩)))
  first
    | exact wpAny_pure (wpAny_bind fin)
    | exact wpAny_bind (wpAny_pure (wpAny_bind fin))
    | exact wpAny_bind fin
def rIxF (K : Frag) : R2 := fun x y H Q => rIx K x y H Q ∨ rDG x y H Q
theorem or_ix {X : Cx} (hu : X.A.units + 1 < cLine) : IxR X (rIxF X.K) := IxR.or ix_seq (ix_dict hu)
theorem atI_rel {K : Frag} {g : Gh} {H : Hp} {ds : List D} {vs : List V} {i : Int} {d : D} (r : RDs K g H ds vs) (e : atI ds i = some d) : ∃ v, atI vs i = some v ∧ RD K g H d v := by
  unfold atI at e ⊢
  rw [← r.length]
  cases h : ixN ds.length i with
  | none => rw [h] at e; cases e
  | some j =>
    rw [h] at e
    exact r.get e
theorem op2_ix {K : Frag} : Op2 K (rIxF K) ixF := by
  intro W g s H σ x y v w Q R rx ry h
  have gen : (match seqOf x s with
    | some ds => match y with
      | .int i => match atI ds i with
        | some d => Co.R.ok d s
        | none => .bad
      | _ => .bad
    | none => match dget x y s with
      | some (some d) => Co.R.ok d s
      | _ => .bad) = ixF x y s → rIxF K v w H Q := by
    intro e
    rw [← e] at h
    cases hs : seqOf x s with
    | some ds =>
      rw [hs] at h
      cases y with
      | int i =>
        cases ha : atI ds i with
        | none => simp only [ha] at h; exact h.elim
        | some d =>
          simp only [ha] at h
          cases ry
          have sq : (∃ p vs, v = .ref p ∧ SqL K H p vs ∧ RDs K g H ds vs) ∨ ∃ p vs, v = .ref p ∧ SqT K H p vs ∧ RDs K g H ds vs := by
            cases x with
            | tup xs =>
              cases hs
              obtain ⟨p, vs, e1, e2, e3⟩ := rx
              exact .inr ⟨p, vs, e1, .of e2, e3⟩
            | ct xs =>
              cases hs
              obtain ⟨p, vs, e1, e2, e3⟩ := rx
              exact .inr ⟨p, vs, e1, e2.tup, e3⟩
            | _ => exact .inl (lst_ok R rx hs)
          rcases sq with ⟨p, vs, rfl, e2, e3⟩ | ⟨p, vs, rfl, e2, e3⟩
          · obtain ⟨u, hu, ru⟩ := atI_rel e3 ha
            exact .inl (.inl ⟨p, vs, i, u, rfl, rfl, e2, hu, post_ok R ru h⟩)
          · obtain ⟨u, hu, ru⟩ := atI_rel e3 ha
            exact .inl (.inr (.inl ⟨p, vs, i, u, rfl, rfl, e2, hu, post_ok R ru h⟩))
      | _ => exact h.elim
    | none =>
      rw [hs] at h
      cases hd : dget x y s with
      | none => simp only [hd] at h; exact h.elim
      | some o =>
        cases o with
        | none => simp only [hd] at h; exact h.elim
        | some d =>
          simp only [hd] at h
          obtain ⟨p, ov, e1, e2, _, e4⟩ := dget_ok R rx ry hd
          obtain ⟨u, hu, ru⟩ := e4 d rfl
          subst hu
          exact .inr ⟨p, u, e1, e2, post_ok R ru h⟩
  cases x with
  | str z =>
    cases y with
    | int i =>
      have h' : Post K W g H σ (RD K) (match atI z.cps.toList i with | some c => if z.length ≤ LINE then .ok (.str ⟨#[c]⟩) s else .bad | none => .bad) Q := h
      cases ha : atI z.cps.toList i with
      | none => rw [ha] at h'; exact h'.elim
      | some c =>
        rw [ha] at h'
        by_cases hl : z.length ≤ LINE
        · simp only [if_pos hl] at h'
          cases rx; cases ry
          exact .inl (.inr (.inr ⟨z, i, c, rfl, rfl, hl, ha, post_ok (d := .str _) R rfl h'⟩))
        · simp only [if_neg hl] at h'; exact h'.elim
    | _ => exact gen rfl
  | _ => cases y <;> exact gen rfl
/-! ### in -/
def flatD : D → Bool
  | .non => true | .bl _ => true | .int _ => true | .str _ => true
  | _ => false
def eqFl : D → D → Bool
  | .non, .non => true
  | .bl a, .bl b => a == b
  | .bl a, .int b => (if a then 1 else 0) == b
  | .int a, .bl b => a == (if b then 1 else 0)
  | .int a, .int b => a == b
  | .str a, .str b => a == b
  | _, _ => false
def strIn (x z : Str) : Bool := !(Builtin.Str.occurrences z x 0 z.length 1).isEmpty
def memD (x y : D) (s : S) : Option Bool := match x, y with
  | .str a, .str b => some (strIn a b)
  | x, y => match seqOf y s with
    | some ds => if flatD x = true ∧ ds.all flatD = true then some (ds.any fun d => eqFl d x) else match pyT s x, pyT s y with
      | some p, some (.list qs) => if SeqAt.shaped p = true ∧ SeqAt.shaped (.list qs) = true then some (qs.any fun q => PyData.eqv q p) else none
      | _, _ => none
    | none => match dget y x s with
      | some o => some o.isSome
      | none => none
def inF (neg : Bool) (x y : D) (s : S) : R D := match memD x y s with
  | some k => .ok (.bl (if neg then !k else k)) s
  | none => .bad
def rInF (K : Frag) (neg : Bool) : R2 := fun x y H Q => (∃ i j, x = .str i ∧ y = .str j ∧ Q (.bl (if neg then !(strIn i j) else strIn i j)) H) ∨ rIn K neg x y H Q ∨
  (∃ d ds, Dp K H x d ∧ Dp K H y (.list ds) ∧ SeqAt.shaped d = true ∧ SeqAt.shaped (.list ds) = true ∧ Q (.bl (if neg then !(ds.any fun z => PyData.eqv z d) else (ds.any fun z => PyData.eqv z d))) H) ∨
  ∃ a o, y = .ref a ∧ DGet H a x o ∧ Q (.bl (if neg then !o.isSome else o.isSome)) H
theorem or_dict_in {X : Cx} (hu : X.A.units + 1 < cLine) : OpR X (compareOp .In) (fun x y H Q => ∃ a o, y = .ref a ∧ DGet H a x o ∧ Q (.bl o.isSome) H) := by
  intro pins s σ H x y v u Q I rx ry ⟨a, o, e, hg, q⟩
  subst e
  obtain rfl : u = Value.ref a := ry
  exact d_in hu I hg rx fun s3 I3 => ⟨.bl o.isSome, H, I3, rfl, q⟩
theorem or_dict_notin {X : Cx} (hu : X.A.units + 1 < cLine) : OpR X (compareOp .NotIn) (fun x y H Q => ∃ a o, y = .ref a ∧ DGet H a x o ∧ Q (.bl (!o.isSome)) H) := by
  intro pins s σ H x y v u Q I rx ry ⟨a, o, e, hg, q⟩
  subst e
  obtain rfl : u = Value.ref a := ry
  exact d_notIn hu I hg rx fun s3 I3 => ⟨.bl (!o.isSome), H, I3, rfl, q⟩
theorem or_in {X : Cx} (hu : X.A.units + 65 < cLine) : OpR X (compareOp .In) (rInF X.K false) := OpR.or op_in_str (OpR.or op_in_seq (OpR.or (op_inD hu) (or_dict_in (by omega))))
theorem or_notin {X : Cx} (hu : X.A.units + 65 < cLine) : OpR X (compareOp .NotIn) (rInF X.K true) := OpR.or op_notin_str (OpR.or op_notIn_seq (OpR.or (op_notInD hu) (or_dict_notin (by omega))))
section
variable {K : Frag} {g : Gh} {H : Hp}
theorem flat_ok {d : D} {v : V} (r : RD K g H d v) (f : flatD d = true) : flatV v = true := by
  cases d with
  | non => cases r; rfl
  | bl b => cases r; rfl
  | int b => cases r; rfl
  | str b => cases r; rfl
  | _ => cases f
theorem flats_ok : ∀ {ds : List D} {vs : List V}, RDs K g H ds vs → ds.all flatD = true → vs.all flatV = true
  | [], _, r, _ => by cases r; rfl
  | d :: ds, vs, r, f => by
    obtain ⟨v, us, rfl, h1, h2⟩ := r
    simp only [List.all_cons, Bool.and_eq_true] at f ⊢
    exact ⟨flat_ok h1 f.1, flats_ok h2 f.2⟩
theorem eqFl_ok {d x : D} {v w : V} (r : RD K g H d v) (rx : RD K g H x w) (f : flatD d = true) (fx : flatD x = true) : eqV v w = eqFl d x := by
  cases d <;> first | (cases f; done) | skip
  all_goals (cases x <;> first | (cases fx; done) | (cases r; cases rx; rfl))
theorem anyFl_ok {x : D} {w : V} (rx : RD K g H x w) (fx : flatD x = true) : ∀ {ds : List D} {vs : List V}, RDs K g H ds vs → ds.all flatD = true → inV w vs = ds.any fun d => eqFl d x
  | [], _, r, _ => by cases r; rfl
  | d :: ds, vs, r, f => by
    obtain ⟨v, us, rfl, h1, h2⟩ := r
    simp only [List.all_cons, Bool.and_eq_true] at f
    show ((v :: us).any fun y => eqV y w) = _
    rw [List.any_cons, List.any_cons, eqFl_ok h1 rx f.1 fx]
    have := anyFl_ok rx fx h2 f.2
    unfold inV at this
    rw [this]
end
theorem op2_in {K : Frag} {neg : Bool} : Op2 K (rInF K neg) (inF neg) := by
  intro W g s H σ x y v w Q R rx ry h
  unfold inF at h
  cases e : memD x y s with
  | none => rw [e] at h; exact h.elim
  | some k =>
    rw [e] at h
    have q := post_ok (d := .bl (if neg then !k else k)) R rfl h
    have gen : (match seqOf y s with
      | some ds => if flatD x = true ∧ ds.all flatD = true then some (ds.any fun d => eqFl d x) else match pyT s x, pyT s y with
        | some p, some (.list qs) => if SeqAt.shaped p = true ∧ SeqAt.shaped (.list qs) = true then some (qs.any fun q => PyData.eqv q p) else none
        | _, _ => none
      | none => match dget y x s with
        | some o => some o.isSome
        | none => none) = some k → rInF K neg v w H Q := by
      intro e
      cases hs : seqOf y s with
      | some ds =>
        rw [hs] at e
        by_cases hf : flatD x = true ∧ ds.all flatD = true
        · simp only [if_pos hf] at e
          cases e
          have sq : (∃ p vs, w = .ref p ∧ SqL K H p vs ∧ RDs K g H ds vs) ∨ ∃ p vs, w = .ref p ∧ SqT K H p vs ∧ RDs K g H ds vs := by
            cases y with
            | tup xs =>
              cases hs
              obtain ⟨p, vs, e1, e2, e3⟩ := ry
              exact .inr ⟨p, vs, e1, .of e2, e3⟩
            | ct xs =>
              cases hs
              obtain ⟨p, vs, e1, e2, e3⟩ := ry
              exact .inr ⟨p, vs, e1, e2.tup, e3⟩
            | _ => exact .inl (lst_ok R ry hs)
          rcases sq with ⟨p, vs, rfl, e2, e3⟩ | ⟨p, vs, rfl, e2, e3⟩
          · exact .inr (.inl ⟨p, vs, rfl, .inl e2, flat_ok rx hf.1, flats_ok e3 hf.2, by rw [anyFl_ok rx hf.1 e3 hf.2]; exact q⟩)
          · exact .inr (.inl ⟨p, vs, rfl, .inr e2, flat_ok rx hf.1, flats_ok e3 hf.2, by rw [anyFl_ok rx hf.1 e3 hf.2]; exact q⟩)
        · simp only [if_neg hf] at e
          split at e
          · rename_i p qs hp hq
            by_cases c : SeqAt.shaped p = true ∧ SeqAt.shaped (.list qs) = true
            · rw [if_pos c] at e
              cases e
              exact .inr (.inr (.inl ⟨p, qs, dpT_of R rx hp (SeqAt.canLay_of_shaped c.1), dpT_of R ry hq (SeqAt.canLay_of_shaped c.2), c.1, c.2, q⟩))
            · rw [if_neg c] at e; cases e
          · cases e
      | none =>
        rw [hs] at e
        cases hd : dget y x s with
        | none => simp only [hd] at e; cases e
        | some o =>
          simp only [hd] at e
          cases e
          obtain ⟨p, ov, e1, e2, e3, e4⟩ := dget_ok R ry rx hd
          have eo : ov.isSome = o.isSome := by
            cases o with
            | none => rw [e3 rfl] <;> rfl
            | some d => obtain ⟨z, hz, _⟩ := e4 d rfl; rw [hz]; rfl
          exact .inr (.inr (.inr ⟨p, ov, e1, e2, by rw [eo]; exact q⟩))
    cases x with
    | str a =>
      cases y with
      | str b =>
        cases e
        cases rx; cases ry
        exact .inl ⟨a, b, rfl, rfl, q⟩
      | _ => exact gen e
    | _ => cases y <;> exact gen e
end Co
namespace Co
open PySem PySem.Spec PyProof.Rows L2
/-! ### names, constants -/
def varM (i : Nat) : ME D := fun env s => match env[i]? with
  | some (some d) => .ok d s
  | _ => .bad
def litM (d : D) : ME D := fun _ s => .ok d s
section
variable {X : Cx} {W : WX} {a b c e : Expr} {es : List Expr} {pos : Pos} {ma mb mc : ME D} {mes : ME (List D)}
theorem px_var {i : Nat} {x : Str} (hN : X.N[i]? = some x) (hv : Vis X.env.scope x) (hd : (x == ("__debug__" : Str)) = false) (hcd : (x == ("__classdict__" : Str)) = false) : PX X W (.Name x pos) (varM i) := by
  refine PE.imp (pe_var (i := i) hN hv hd hcd) fun σ H Q ⟨g, s, env, R, E, h⟩ => ?_
  unfold varM at h
  split at h
  · rename_i d hd'
    obtain ⟨v, h1, h2⟩ := E.2 i d hd'
    exact ⟨v, h1, post_ok R h2 h⟩
  · exact h.elim
/-- a value that stands by itself -/
theorem px_const {d : D} {v : V} (h : PE X e (tC v)) (r : ∀ g H, RD X.K g H d v) : PX X W e (litM d) := PE.imp h fun σ H Q ⟨g, s, env, R, E, p⟩ => post_ok R (r g H) p
theorem px_int {i : Int} {j : Nat} : PX X W (.Constant (.int i) j pos) (litM (.int i)) := px_const pe_int fun _ _ => rfl
theorem px_str {x : Str} {j : Nat} : PX X W (.Constant (.str x) j pos) (litM (.str x)) := px_const pe_str fun _ _ => rfl
theorem px_bl {b : Bool} {j : Nat} : PX X W (.Constant (.bool b) j pos) (litM (.bl b)) := px_const pe_bl fun _ _ => rfl
theorem px_non {j : Nat} : PX X W (.Constant .none j pos) (litM .non) := px_const pe_non fun _ _ => rfl
theorem px_glob {x : Str} {d : D} {v : V} {u : Value} (hg : Gl X x) (hm : X.mg x = some u) (r : RelV v u) (rd : ∀ g H, RD X.K g H d v) (hdb : (x == ("__debug__" : Str)) = false) : PX X W (.Name x pos) (litM d) := px_const (pe_glob hg hm r hdb) rd
def negF (x : D) (s : S) : R D := match x with
  | .int i => .ok (.int (-i)) s
  | _ => .bad
theorem px_neg (ha : PX X W a ma) : PX X W (.UnaryOp .USub a pos) (op1M negF ma) := by
  refine PE.imp (pe_un un_neg ha) fun σ H Q h => (TX.bind (rel := RD X.K) h).imp fun v H1 ⟨g1, x, s1, env, R1, E1, r1, p1⟩ => ?_
  cases x with
  | int i => cases r1; exact ⟨i, rfl, post_ok (d := .int (-i)) R1 rfl p1⟩
  | _ => exact p1.elim
/-! ### displays -/
def nilM : ME (List D) := fun _ s => .ok [] s
def consM (m : ME D) (ms : ME (List D)) : ME (List D) := fun env s => bd (m env s) fun d s1 => bd (ms env s1) fun ds s2 => .ok (d :: ds) s2
theorem pl_nil : PL X W [] nilM := PA.imp pa_nil fun σ H Q ⟨g, s, env, R, E, p⟩ => p g H [] (.refl _ _) R rfl
theorem star_of {e : Expr} (he : (match e with | .Starred _ _ => false | _ => true) = true) (env : PySem.Env) : starEach (e :: es) env = (false, eval e env) :: starEach es env := by
  cases e <;> first | rfl | cases he
theorem pl_cons (hs : starEach (e :: es) X.env = (false, eval e X.env) :: starEach es X.env) (ha : PX X W e ma) (hr : PL X W es mes) : PL X W (e :: es) (consM ma mes) := by
  refine PA.imp (pa_cons ha hr hs) fun σ H Q h => (TX.bind (rel := RD X.K) h).imp fun v H1 ⟨g1, x, s1, env, R1, E1, r1, p1⟩ => ?_
  refine TX.mk R1 E1 ((Post.bind (rel := RDs X.K) p1).imp fun vs H2 ⟨g2, ds, s2, st, R2, r2, _, p2⟩ => ?_)
  exact p2 g2 H2 (v :: vs) (.refl _ _) R2 (.cons (RD.mono st.toStp0 x v r1) r2)
def argM (f : List D → S → R D) (ms : ME (List D)) : ME D := fun env s => bd (ms env s) f
theorem px_tup {k : Nat} (h : PL X W es mes) : PX X W (.Tuple es k pos) (argM mkT mes) :=
  PE.imp (pe_tup h) fun σ H Q hq => (TX.bind (rel := RDs X.K) hq).imp fun vs H1 ⟨g1, ds, s1, env, R1, E1, r1, p1⟩ => post_mkT R1 r1 p1
theorem px_lst {m : Bool} (h : PL X W es mes) : PX X W (.List es pos) (argM (mkL m) mes) :=
  PE.imp (pe_lst h) fun σ H Q hq => (TX.bind (rel := RDs X.K) hq).imp fun vs H1 ⟨g1, ds, s1, env, R1, E1, r1, p1⟩ => post_mkL R1 r1 p1
/-- {} -/
def dnewF (m : Bool) : S → R D := fun s => if m then .ok (.ref s.next) (s.alloc (.dK [])) else .ok (.dv [] []) s
def dnewM (m : Bool) : ME D := fun _ s => dnewF m s
theorem px_dnew {m : Bool} : PX X W (.Dict [] [] pos) (dnewM m) := by
  refine PE.imp pe_dnewK fun σ H Q ⟨g, s, env, R, E, h⟩ p hp => ?_
  cases m with
  | false => exact h (g.frz p) _ _ (stp_frz R hp) (R.frz hp) ⟨p, [], rfl, .inr rfl, upd_same, rfl, rfl⟩
  | true => exact h (g.add s.next p) _ _ (stp_add R hp) (R.add hp ⟨[], upd_same, rfl, rfl⟩) ⟨p, rfl, if_pos rfl⟩
def dnewTM : ME D := fun _ s => .ok (.ref s.next) (s.alloc (.dT []))
theorem px_dnewT : PX X W (.Dict [] [] pos) dnewTM := by
  refine PE.imp pe_dnewT fun σ H Q ⟨g, s, env, R, E, h⟩ p hp => ?_
  exact h (g.add s.next p) _ _ (stp_add R hp) (R.add hp ⟨[], upd_same, rfl, rfl⟩) ⟨p, rfl, if_pos rfl⟩
/-! ### truth -/
def truD (x : D) (s : S) : Option Bool := match x with
  | .non => some false
  | .bl b => some b
  | .int i => some (i != 0)
  | .str y => if y.length ≤ LINE then some ((y.length : Int) != 0) else none
  | x => match seqOf x s with
    | some ds => some (!ds.isEmpty)
    | none => match x with
      | .ref a => match s.heap a with
        | some (.dK kvs) => some (!kvs.isEmpty)
        | _ => none
      | _ => none
theorem isEmpty_rel {K : Frag} {g : Gh} {H : Hp} {ds : List D} {vs : List V} (r : RDs K g H ds vs) : (!vs.isEmpty) = !ds.isEmpty := by
  cases ds with
  | nil => cases r; rfl
  | cons d ds => obtain ⟨v, us, rfl, _⟩ := r; rfl
theorem truD_ok {K : Frag} {g : Gh} {s : S} {H : Hp} {x : D} {v : V} {k : Bool} (R : Rel K g s H) (r : RD K g H x v) (e : truD x s = some k) : TruV K v H k := by
  have gen : (match seqOf x s with
    | some ds => some (!ds.isEmpty)
    | none => match x with
      | .ref a => match s.heap a with
        | some (.dK kvs) => some (!kvs.isEmpty)
        | _ => none
      | _ => none) = some k → TruV K v H k := by
    intro e
    cases hs : seqOf x s with
    | some ds =>
      rw [hs] at e
      cases e
      have sq : (∃ p vs, v = .ref p ∧ SqL K H p vs ∧ RDs K g H ds vs) ∨ ∃ p vs, v = .ref p ∧ SqT K H p vs ∧ RDs K g H ds vs := by
        cases x with
        | tup xs =>
          cases hs
          obtain ⟨p, vs, e1, e2, e3⟩ := r
          exact .inr ⟨p, vs, e1, .of e2, e3⟩
        | ct xs =>
          cases hs
          obtain ⟨p, vs, e1, e2, e3⟩ := r
          exact .inr ⟨p, vs, e1, e2.tup, e3⟩
        | _ => exact .inl (lst_ok R r hs)
      rcases sq with ⟨p, vs, rfl, e2, e3⟩ | ⟨p, vs, rfl, e2, e3⟩
      · exact .inl ⟨vs, e2, (isEmpty_rel e3).symm⟩
      · exact .inr (.inl ⟨vs, e2, (isEmpty_rel e3).symm⟩)
    | none =>
      rw [hs] at e
      cases x with
      | ref a =>
        have e' : (match s.heap a with | some (.dK kvs) => some (!kvs.isEmpty) | _ => none) = some k := e
        split at e'
        · rename_i kvs ha
          cases e'
          obtain ⟨p, rfl, e2⟩ := r
          obtain ⟨q, h1, _, ws, h3, h4, h5⟩ := R.obj a _ ha
          rw [e2] at h1; cases h1
          refine .inr (.inr ⟨ws, h3, ?_⟩)
          have := congrArg List.length h4
          cases ws <;> cases kvs <;> simp at this ⊢
        · cases e'
      | _ => cases e
  cases x with
  | non => cases r; cases e; rfl
  | bl b => cases r; cases e; rfl
  | int i => cases r; cases e; rfl
  | str y =>
    cases r
    have e' : (if y.length ≤ LINE then some ((y.length : Int) != 0) else none) = some k := e
    by_cases hl : y.length ≤ LINE
    · rw [if_pos hl] at e'
      cases e'
      exact ⟨hl, rfl⟩
    · rw [if_neg hl] at e'; cases e'
  | _ => exact gen e
def truM (m : ME D) : ME Bool := fun env s => bd (m env s) fun x s1 => match truD x s1 with
  | some k => .ok k s1
  | none => .bad
theorem truM_of {t : TE} {m : ME D} (ht : ∀ σ H Q, TE' X.K W m σ H Q → t σ H Q) (σ : L2.St) (H : Hp) (Q : Bool → Hp → Prop) (h : TT' X.K W (truM m) σ H Q) : t σ H fun x H' => ∃ k, TruV X.K x H' k ∧ Q k H' := by
  refine ht _ _ _ ((TX.bind (rel := RD X.K) h).imp fun v H1 ⟨g1, x, s1, env, R1, E1, r1, p1⟩ => ?_)
  cases e : truD x s1 with
  | none => rw [e] at p1; exact p1.elim
  | some k => rw [e] at p1; exact ⟨k, truD_ok R1 r1 e, p1 g1 H1 k (.refl _ _) R1 rfl⟩
theorem pb_truth (he : ∀ whole, isTrue a X.env whole = (do let v ← whole; standAt a.pos; holding [v] (truthy v))) (ha : PX X W a ma) : PB X W a (truM ma) :=
  PT.imp (pt_truth ha he) (truM_of fun _ _ _ h => h)
/-! ### not, and, or, if -/
section
variable {na nb : ME Bool}
def notM (m : ME Bool) : ME Bool := fun env s => bd (m env s) fun k s1 => .ok (!k) s1
theorem pb_not (ha : PB X W a na) : PB X W (.UnaryOp .Not a pos) (notM na) :=
  PT.imp (pt_not ha) fun σ H Q h => (TX.bind (rel := Eqr) h).imp fun v H1 ⟨g1, x, s1, env, R1, E1, r1, p1⟩ => by
    subst r1
    exact p1 g1 H1 _ (.refl _ _) R1 rfl
def andM (m n : ME Bool) : ME Bool := fun env s => bd (m env s) fun k s1 => if k then n env s1 else .ok false s1
def orM (m n : ME Bool) : ME Bool := fun env s => bd (m env s) fun k s1 => if k then .ok true s1 else n env s1
theorem tAnd_of (σ : L2.St) (H : Hp) (Q : Bool → Hp → Prop) (h : TT' X.K W (andM na nb) σ H Q) : tAnd (TT' X.K W na) (TT' X.K W nb) σ H Q := by
  refine (TX.bind (rel := Eqr) h).imp fun k H1 ⟨g1, x, s1, env, R1, E1, r1, p1⟩ => ?_
  subst r1
  cases x with
  | true => exact TX.mk R1 E1 p1
  | false => exact p1 g1 H1 _ (.refl _ _) R1 rfl
theorem tOr_of (σ : L2.St) (H : Hp) (Q : Bool → Hp → Prop) (h : TT' X.K W (orM na nb) σ H Q) : tOr (TT' X.K W na) (TT' X.K W nb) σ H Q := by
  refine (TX.bind (rel := Eqr) h).imp fun k H1 ⟨g1, x, s1, env, R1, E1, r1, p1⟩ => ?_
  subst r1
  cases x with
  | true => exact p1 g1 H1 _ (.refl _ _) R1 rfl
  | false => exact TX.mk R1 E1 p1
/-- .. as values -/
def notV (m : ME D) : ME D := fun env s => bd (m env s) fun x s1 => match truD x s1 with
  | some k => .ok (.bl (!k)) s1
  | none => .bad
theorem px_not (ha : PX X W a ma) : PX X W (.UnaryOp .Not a pos) (notV ma) := by
  refine PE.imp (pe_notT ha) fun σ H Q h => (TX.bind (rel := RD X.K) h).imp fun v H1 ⟨g1, x, s1, env, R1, E1, r1, p1⟩ => ?_
  cases e : truD x s1 with
  | none => rw [e] at p1; exact p1.elim
  | some k => rw [e] at p1; exact ⟨k, truD_ok R1 r1 e, post_ok (d := .bl (!k)) R1 rfl p1⟩
def andV (m n : ME D) : ME D := fun env s => bd (m env s) fun x s1 => match truD x s1 with
  | some true => n env s1
  | some false => .ok x s1
  | none => .bad
def orV (m n : ME D) : ME D := fun env s => bd (m env s) fun x s1 => match truD x s1 with
  | some true => .ok x s1
  | some false => n env s1
  | none => .bad
theorem px_and {rest : List Expr} (ha : PX X W a ma) (hb : PX X W (.BoolOp .And (b :: rest) pos) mb) : PX X W (.BoolOp .And (a :: b :: rest) pos) (andV ma mb) := by
  refine PE.imp (pe_andT ha hb) fun σ H Q h => (TX.bind (rel := RD X.K) h).imp fun v H1 ⟨g1, x, s1, env, R1, E1, r1, p1⟩ => ?_
  cases e : truD x s1 with
  | none => rw [e] at p1; exact p1.elim
  | some k =>
    rw [e] at p1
    refine ⟨k, truD_ok R1 r1 e, ?_⟩
    cases k with
    | true => rw [if_pos rfl]; exact TX.mk R1 E1 p1
    | false => rw [if_neg Bool.false_ne_true]; exact post_ok R1 r1 p1
theorem px_or {rest : List Expr} (ha : PX X W a ma) (hb : PX X W (.BoolOp .Or (b :: rest) pos) mb) : PX X W (.BoolOp .Or (a :: b :: rest) pos) (orV ma mb) := by
  refine PE.imp (pe_orT ha hb) fun σ H Q h => (TX.bind (rel := RD X.K) h).imp fun v H1 ⟨g1, x, s1, env, R1, E1, r1, p1⟩ => ?_
  cases e : truD x s1 with
  | none => rw [e] at p1; exact p1.elim
  | some k =>
    rw [e] at p1
    refine ⟨k, truD_ok R1 r1 e, ?_⟩
    cases k with
    | true => rw [if_pos rfl]; exact post_ok R1 r1 p1
    | false => rw [if_neg Bool.false_ne_true]; exact TX.mk R1 E1 p1
theorem px_one {op : BoolOp} (h : PX X W a ma) : PX X W (.BoolOp op [a] pos) ma := pe_one h
def ifM {α : Type} (c : ME Bool) (m n : ME α) : ME α := fun env s => bd (c env s) fun k s1 => if k then m env s1 else n env s1
theorem px_if {t : Expr} (hc : PB X W t na) (ha : PX X W a ma) (hb : PX X W b mb) : PX X W (.IfExp t a b pos) (ifM na ma mb) :=
  PE.imp (pe_ifExp hc ha hb) fun σ H Q h => (TX.bind (rel := Eqr) h).imp fun k H1 ⟨g1, x, s1, env, R1, E1, r1, p1⟩ => by
    subst r1
    cases x with
    | true => exact TX.mk R1 E1 p1
    | false => exact TX.mk R1 E1 p1
end
/-! ### slices -/
def cutD (ds : List D) (lo hi : Option Int) : List D := (ds.drop (HT.sIx ds.length 0 lo)).take (HT.sIx ds.length ds.length hi - HT.sIx ds.length 0 lo)
def slF (m : Bool) (x : D) (lo hi : Option Int) (s : S) : R D := match x with
  | .str z => if z.length ≤ LINE then .ok (.str (cutS z lo hi)) s else .bad
  | .tup ds => .ok (.tup (cutD ds lo hi)) s
  | x => match lstOf x s with
    | some ds => if ds.length ≤ LINE then mkL m (cutD ds lo hi) s else .bad
    | none => .bad
/-- a part of a slice: left out, or an int -/
def partM : Option (ME D) → ME (Option Int)
  | none => fun _ s => .ok none s
  | some m => fun env s => bd (m env s) fun x s1 => match x with
    | .int i => .ok (some i) s1
    | _ => .bad
abbrev PP (X : Cx) (W : WX) (e : Option Expr) (m : Option (ME D)) : Prop := PO X e (TX X.K W Eqr (partM m))
theorem PO.imp {X : Cx} {e : Option Expr} {t t' : TO} (h : PO X e t) (i : ∀ σ H Q, t' σ H Q → t σ H Q) : PO X e t' := ⟨fun pins s σ H Q I q => h.run pins s σ H Q I (i σ H Q q)⟩
theorem pp_none : PP X W none none := PO.imp po_none fun σ H Q ⟨g, s, env, R, E, p⟩ => p g H none (.refl _ _) R rfl
theorem pp_some (ha : PX X W a ma) : PP X W (some a) (some ma) := by
  refine PO.imp (po_some ha) fun σ H Q h => (TX.bind (rel := RD X.K) h).imp fun v H1 ⟨g1, x, s1, env, R1, E1, r1, p1⟩ => ?_
  cases x with
  | int i => cases r1; exact ⟨i, rfl, p1 g1 H1 _ (.refl _ _) R1 rfl⟩
  | _ => exact p1.elim
def slM (m : Bool) (ma : ME D) (ml mh : Option (ME D)) : ME D := fun env s => bd (ma env s) fun x s1 => bd (partM ml env s1) fun lo s2 => bd (partM mh env s2) fun hi s3 => slF m x lo hi s3
def rSlF (K : Frag) : V → Option Int → Option Int → Hp → VK → Prop := fun x lo hi H Q => rSlS x lo hi H Q ∨ rSlA K x lo hi H Q ∨ rSlL K x lo hi H Q
theorem cutD_rel {K : Frag} {g : Gh} {H : Hp} {ds : List D} {vs : List V} (lo hi : Option Int) (r : RDs K g H ds vs) : RDs K g H (cutD ds lo hi) (cutV vs lo hi) := by
  unfold cutD cutV
  rw [r.length]
  exact (r.drop _).take _
theorem cut_full {vs : List V} {lo hi : Option Int} (h : HT.sIx vs.length 0 lo = 0 ∧ HT.sIx vs.length vs.length hi = vs.length) : cutV vs lo hi = vs := by
  unfold cutV
  rw [h.1, h.2]
  simp
theorem slF_ok {K : Frag} {W : WX} {g : Gh} {s : S} {H : Hp} {σ : L2.St} {m : Bool} {x : D} {v : V} {lo hi : Option Int} {Q : VK} (R : Rel K g s H) (r : RD K g H x v) (h : Post K W g H σ (RD K) (slF m x lo hi s) Q) : rSlF K v lo hi H Q := by
  have gen : Post K W g H σ (RD K) (match lstOf x s with | some ds => if ds.length ≤ LINE then mkL m (cutD ds lo hi) s else .bad | none => .bad) Q → rSlF K v lo hi H Q := by
    intro h
    cases hs : lstOf x s with
    | none => rw [hs] at h; exact h.elim
    | some ds =>
      rw [hs] at h
      by_cases hl : ds.length ≤ LINE
      · simp only [if_pos hl] at h
        obtain ⟨p, vs, rfl, e2, e3⟩ := lst_ok R r hs
        exact .inr (.inr ⟨p, vs, rfl, e2, (post_mkL R (cutD_rel lo hi e3) h).2⟩)
      · simp only [if_neg hl] at h; exact h.elim
  cases x with
  | str z =>
    have h' : Post K W g H σ (RD K) (if z.length ≤ LINE then .ok (.str (cutS z lo hi)) s else .bad) Q := h
    by_cases hl : z.length ≤ LINE
    · rw [if_pos hl] at h'
      cases r
      exact .inl ⟨z, rfl, hl, post_ok (d := .str _) R rfl h'⟩
    · rw [if_neg hl] at h'; exact h'.elim
  | tup ds =>
    obtain ⟨p, vs, rfl, e2, e3⟩ := r
    have e4 := cutD_rel lo hi e3
    refine .inr (.inl ⟨p, vs, rfl, .of e2, fun hf => ?_, fun _ q hq => ?_⟩)
    · rw [cut_full hf] at e4
      exact post_ok (d := .tup (cutD ds lo hi)) R ⟨p, vs, rfl, e2, e4⟩ h
    · exact h g _ _ (stp_new R hq) (R.new hq) ⟨q, _, rfl, upd_same, RDs.mono (stp_new R hq).toStp0 _ _ e4⟩
  | _ => exact gen h
theorem px_sl {m : Bool} {lo hi : Option Expr} {ml mh : Option (ME D)} {p2 : Pos} (ha : PX X W a ma) (hl : PP X W lo ml) (hh : PP X W hi mh) : PX X W (.Subscript a (.Slice lo hi none p2) pos) (slM m ma ml mh) := by
  refine PE.imp (pe_slice (r := rSlF X.K) (SlR.or sl_str (SlR.or sl_tupA sl_list)) ha hl hh) fun σ H Q h => (TX.bind (rel := RD X.K) h).imp fun v H1 ⟨g1, x, s1, env, R1, E1, r1, p1⟩ => ?_
  refine TX.mk R1 E1 ((Post.bind (rel := Eqr) p1).imp fun l H2 ⟨g2, lo', s2, st2, R2, r2, _, p2⟩ => ?_)
  subst r2
  refine TX.mk R2 (E1.mono st2.toStp0) ((Post.bind (rel := Eqr) p2).imp fun u H3 ⟨g3, hi', s3, st3, R3, r3, _, p3⟩ => ?_)
  subst r3
  exact slF_ok R3 (RD.mono (st2.trans st3).toStp0 x v r1) p3
def revF (m : Bool) (x : D) (s : S) : R D := match lstOf x s with
  | some ds => if ds.length ≤ LINE then mkL m ds.reverse s else .bad
  | none => .bad
theorem px_rev {m : Bool} {k : Nat} {p1 p2 p3 : Pos} (ha : PX X W a ma) : PX X W (.Subscript a (.Slice none none (some (.UnaryOp .USub (.Constant (.int 1) k p1) p2)) p3) pos) (op1M (revF m) ma) := by
  refine PE.imp (pe_revL ha) fun σ H Q h => (TX.bind (rel := RD X.K) h).imp fun v H1 ⟨g1, x, s1, env, R1, E1, r1, p1⟩ => ?_
  unfold revF at p1
  cases hs : lstOf x s1 with
  | none => rw [hs] at p1; exact p1.elim
  | some ds =>
    rw [hs] at p1
    by_cases hl : ds.length ≤ LINE
    · simp only [if_pos hl] at p1
      obtain ⟨p, vs, rfl, e2, e3⟩ := lst_ok R1 r1 hs
      exact ⟨p, vs, rfl, e2, (post_mkL R1 e3.reverse p1).2⟩
    · simp only [if_neg hl] at p1; exact p1.elim
/-! ### fields -/
def fldF (c f : Str) (x : D) (s : S) : R D := match x with
  | .ref a => match s.heap a with
    | some (.ins c' fs) => if c' = c then (match fs.lookup f with
      | some d => .ok d s
      | none => .bad) else .bad
    | _ => .bad
  | _ => .bad
theorem lookup_rel {K : Frag} {g : Gh} {H : Hp} : ∀ {fs : List (Str × D)} {ws : List (Str × V)} {f : Str}, ws.map (·.1) = fs.map (·.1) → RDs K g H (fs.map (·.2)) (ws.map (·.2)) →
    (fs.lookup f = none → ws.lookup f = none) ∧ ∀ d, fs.lookup f = some d → ∃ v, ws.lookup f = some v ∧ RD K g H d v
  | [], [], f, _, _ => ⟨fun _ => rfl, fun d e => by cases e⟩
  | [], _ :: _, f, e, _ => by simp at e
  | _ :: _, [], f, e, _ => by simp at e
  | (a, d) :: fs, (b, v) :: ws, f, e, r => by
    simp only [List.map_cons, List.cons.injEq] at e
    obtain ⟨e1, e2⟩ := e
    subst e1
    obtain ⟨v', r', e3, h1, h2⟩ := r
    simp only [List.map_cons, List.cons.injEq] at e3
    obtain ⟨e4, e5⟩ := e3
    subst e4 e5
    obtain ⟨i1, i2⟩ := lookup_rel (f := f) e2 h2
    rw [List.lookup_cons, List.lookup_cons]
    cases h : f == b with
    | true =>
      refine ⟨fun z => ?_, fun d' z => ?_⟩
      · cases z
      · cases z
        exact ⟨v, rfl, h1⟩
    | false => exact ⟨i1, i2⟩
theorem px_fld {cn f : Str} (hb : attributeBase a f X.env (eval a X.env) = eval a X.env) (cl : Cls X.K (He.ga X.K cn)) (na : NoAttr X.K (He.ga X.K cn) f) (ha : PX X W a ma) : PX X W (.Attribute a f pos) (op1M (fldF cn f) ma) := by
  refine PE.imp (pe_fld ha hb) fun σ H Q h => (TX.bind (rel := RD X.K) h).imp fun v H1 ⟨g1, x, s1, env, R1, E1, r1, p1⟩ => ?_
  cases x with
  | ref a =>
    obtain ⟨p, rfl, e2⟩ := r1
    have p1' : Post X.K W g1 H1 σ (RD X.K) (match s1.heap a with
      | some (.ins c' fs) => if c' = cn then (match fs.lookup f with | some d => .ok d s1 | none => .bad) else .bad
      | _ => .bad) Q := p1
    split at p1'
    · rename_i c' fs hh
      by_cases hc : c' = cn
      · subst hc
        rw [if_pos rfl] at p1'
        obtain ⟨q, h1, _, dx, ws, h3, h4, h5⟩ := R1.obj a _ hh
        rw [e2] at h1; cases h1
        cases hf : fs.lookup f with
        | none => rw [hf] at p1'; exact p1'.elim
        | some d =>
          rw [hf] at p1'
          obtain ⟨u, h6, h7⟩ := (lookup_rel h4 h5).2 d hf
          exact ⟨p, _, dx, ws, u, rfl, h3, cl, na, h6, post_ok R1 h7 p1'⟩
      · rw [if_neg hc] at p1'; exact p1'.elim
    · exact p1'.elim
  | _ => exact p1.elim
end
end Co
namespace Co
open PySem PySem.Spec PyProof.Rows L2
/-- how a statement ends -/
inductive Fl where
  | nx | rt (d : D) | bk | ct | ex (c : Str) (fs : List (Str × D))
abbrev MS := Env → S → R (Fl × Env)
/-- an expression's result goes on; its exception leaves the statement -/
def bs {α : Type} (r : R α) (env : Env) (f : α → S → R (Fl × Env)) : R (Fl × Env) := match r with
  | .ok a s => f a s
  | .exc c fs s => .ok (.ex c fs, env) s
  | .bad => .bad
/-- what a statement's end brings -/
def EndOk (K : Frag) (W : WX) (D : Ends) (g : Gh) (H : Hp) (σ : L2.St) : Fl → Prop
  | .nx => D.nx σ H
  | .rt d => ∀ v, RD K g H d v → D.rt v H
  | .bk => D.bk σ H
  | .ct => D.ct σ H
  | .ex c fs => ∀ d, XF K g H fs d → W (.ref (He.ga K c)) d σ H
def PostS (K : Frag) (W : WX) (g : Gh) (H : Hp) (r : R (Fl × Env)) (D : Ends) : Prop := match r with
  | .ok (f, env) s' => ∀ g' H' σ', Stp g H g' H' → Rel K g' s' H' → RE K g' H' env σ' → EndOk K W D g' H' σ' f
  | _ => False
def TS' (K : Frag) (W : WX) (m : MS) : TS := fun D σ H => ∃ g s env, Rel K g s H ∧ RE K g H env σ ∧ PostS K W g H (m env s) D
abbrev PSX (X : Cx) (W : WX) (st : Stmt) (m : MS) : Prop := PS X st (TS' X.K W m)
abbrev PSB (X : Cx) (W : WX) (st : List Stmt) (m : MS) : Prop := PSs X st (TS' X.K W m)
section
variable {K : Frag} {W : WX} {g : Gh} {H : Hp} {D : Ends}
theorem PostS.later {g1 : Gh} {H1 : Hp} {r : R (Fl × Env)} (st : Stp g H g1 H1) (h : PostS K W g H r D) : PostS K W g1 H1 r D := by
  cases r with
  | ok a s' => exact fun g' H' b st' R q => h g' H' b (st.trans st') R q
  | exc c fs s' => exact h
  | bad => exact h
/-- a part is evaluated, then the rest -/
theorem TS'.bind {α β : Type} {σ : L2.St} {m : ME α} {f : Env → α → S → R (Fl × Env)} {rel : Gh → Hp → α → β → Prop} (h : TS' K W (fun env s => bs (m env s) env (f env)) D σ H) :
    TX K W rel m σ H (fun b H1 => ∃ g1 a s1 env, Rel K g1 s1 H1 ∧ RE K g1 H1 env σ ∧ rel g1 H1 a b ∧ PostS K W g1 H1 (f env a s1) D) := by
  obtain ⟨g, s, env, R, E, p⟩ := h
  have p : PostS K W g H (bs (m env s) env (f env)) D := p
  refine ⟨g, s, env, R, E, ?_⟩
  cases hm : m env s with
  | ok a s1 =>
    rw [hm] at p
    exact fun g' H' b st R' q => ⟨g', a, s1, env, R', E.mono st.toStp0, q, PostS.later st p⟩
  | exc c fs s1 =>
    rw [hm] at p
    exact fun g' H' d st R' q => p g' H' σ st R' (E.mono st.toStp0) d q
  | bad => rw [hm] at p; exact p
theorem PostS.bind {α β : Type} {σ : L2.St} {r : R α} {env : Env} {f : α → S → R (Fl × Env)} {rel : Gh → Hp → α → β → Prop} (E : RE K g H env σ) (p : PostS K W g H (bs r env f) D) :
    Post K W g H σ rel r (fun b H1 => ∃ g1 a s1, Stp g H g1 H1 ∧ Rel K g1 s1 H1 ∧ rel g1 H1 a b ∧ PostS K W g1 H1 (f a s1) D) := by
  cases r with
  | ok a s1 => exact fun g' H' b st R' q => ⟨g', a, s1, st, R', q, PostS.later st p⟩
  | exc c fs s1 => exact fun g' H' d st R' q => p g' H' σ st R' (E.mono st.toStp0) d q
  | bad => exact p
end
section
variable {X : Cx} {W : WX} {a b c e : Expr} {st : Stmt} {rest body : List Stmt} {pos : Pos} {ma mb mc : ME D} {m n : MS}
def nxM : MS := fun env s => .ok (.nx, env) s
theorem pss_nil' : PSB X W [] nxM := PSs.imp pss_nil fun σ H D ⟨g, s, env, R, E, p⟩ => p g H σ (.refl _ _) R E
def seqM (m n : MS) : MS := fun env s => match m env s with
  | .ok (.nx, env1) s1 => n env1 s1
  | r => r
theorem pss_cons' (h1 : PSX X W st m) (h2 : PSB X W rest n) : PSB X W (st :: rest) (seqM m n) := by
  refine PSs.imp (pss_cons h1 h2) fun σ H D ⟨g, s, env, R, E, p⟩ => ⟨g, s, env, R, E, ?_⟩
  unfold seqM at p
  cases hm : m env s with
  | ok fe s1 =>
    obtain ⟨f, env1⟩ := fe
    rw [hm] at p
    intro g' H' σ' st' R' E'
    cases f with
    | nx => exact ⟨g', s1, env1, R', E', PostS.later st' p⟩
    | rt d => exact p g' H' σ' st' R' E'
    | bk => exact p g' H' σ' st' R' E'
    | ct => exact p g' H' σ' st' R' E'
    | ex c fs => exact p g' H' σ' st' R' E'
  | exc c fs s1 => rw [hm] at p; exact p
  | bad => rw [hm] at p; exact p
theorem ps_pass' : PSX X W (.Pass pos) nxM := PS.imp ps_pass fun σ H D ⟨g, s, env, R, E, p⟩ => p g H σ (.refl _ _) R E
def flM (f : Fl) : MS := fun env s => .ok (f, env) s
theorem ps_break' : PSX X W (.Break pos) (flM .bk) := PS.imp ps_break fun σ H D ⟨g, s, env, R, E, p⟩ => p g H σ (.refl _ _) R E
theorem ps_continue' : PSX X W (.Continue pos) (flM .ct) := PS.imp ps_continue fun σ H D ⟨g, s, env, R, E, p⟩ => p g H σ (.refl _ _) R E
theorem ps_retN' : PSX X W (.Return none pos) (flM (.rt .non)) := PS.imp ps_retN fun σ H D ⟨g, s, env, R, E, p⟩ => p g H σ (.refl _ _) R E .non rfl
def exprM (m : ME D) : MS := fun env s => bs (m env s) env fun _ s1 => .ok (.nx, env) s1
theorem ps_expr' (hs : swapsWith a none pos.line X.env = pure false) (ha : PX X W a ma) : PSX X W (.Expr a pos) (exprM ma) :=
  PS.imp (ps_expr ha hs) fun σ H D h => (TS'.bind (rel := RD X.K) h).imp fun v H1 ⟨g1, d, s1, env, R1, E1, r1, p1⟩ => p1 g1 H1 σ (.refl _ _) R1 E1
theorem ps_doc' {x : Str} {j : Nat} {pos' : Pos} : PSX X W (.Expr (.Constant (.str x) j pos) pos') nxM := PS.imp ps_doc fun σ H D ⟨g, s, env, R, E, p⟩ => p g H σ (.refl _ _) R E
def retM (m : ME D) : MS := fun env s => bs (m env s) env fun d s1 => .ok (.rt d, env) s1
theorem ps_ret' (ha : PX X W a ma) : PSX X W (.Return (some a) pos) (retM ma) :=
  PS.imp (ps_ret ha) fun σ H D h => (TS'.bind (rel := RD X.K) h).imp fun v H1 ⟨g1, d, s1, env, R1, E1, r1, p1⟩ => p1 g1 H1 σ (.refl _ _) R1 E1 v r1
def ifS (c : ME Bool) (m n : MS) : MS := fun env s => bs (c env s) env fun k s1 => if k then m env s1 else n env s1
theorem ps_if' {t : Expr} {p q : List Stmt} {nc : ME Bool} (hc : PB X W t nc) (ha : PSB X W p m) (hb : PSB X W q n) : PSX X W (.If t p q pos) (ifS nc m n) :=
  PS.imp (ps_if hc ha hb) fun σ H D h => (TS'.bind (rel := Eqr) h).imp fun k H1 ⟨g1, x, s1, env, R1, E1, r1, p1⟩ => by
    subst r1
    cases x with
    | true => rw [if_pos rfl]; exact ⟨g1, s1, env, R1, E1, p1⟩
    | false => rw [if_neg Bool.false_ne_true]; exact ⟨g1, s1, env, R1, E1, p1⟩
/-! ### targets -/
inductive Tg where
  | name (i : Nat) | tup (is : List Nat)
def asgL : List Nat → List D → Env → Option Env
  | [], [], env => some env
  | i :: is, d :: ds, env => asgL is ds (env.set i (some d))
  | _, _, _ => none
def asg : Tg → D → S → Env → Option Env
  | .name i, d, _, env => some (env.set i (some d))
  | .tup is, d, s, env => match seqOf d s with
    | some ds => asgL is ds env
    | none => none
def slots : Tg → List Nat
  | .name i => [i]
  | .tup is => is
/-- a target's reading -/
def gtsOf : List Nat → TGs
  | [] => gNil
  | i :: is => gCons (gName i) (gtsOf is)
def gtOf (K : Frag) : Tg → TG
  | .name i => gName i
  | .tup is => fun v σ H Q => gTup K is.length (gtsOf is) v σ H Q ∨ gUnl K is.length (gtsOf is) v σ H Q
def PGX (X : Cx) (e : Expr) (t : Tg) : Prop := PG X e (gtOf X.K t)
def PGsX (X : Cx) (es : List Expr) (is : List Nat) : Prop := PGs X es (gtsOf is)
/-- only these slots differ -/
structure But (is : List Nat) (σ σ' : L2.St) : Prop where
  len : σ'.length = σ.length
  same : ∀ j, j ∉ is → σ'[j]? = σ[j]?
theorem But.set {σ : L2.St} {i : Nat} {v : Option V} : But [i] σ (σ.set i v) := ⟨List.length_set, fun j h => List.getElem?_set_ne (fun e => h (by rw [e]; exact List.mem_singleton.mpr rfl))⟩
theorem But.trans {is js : List Nat} {σ σ1 σ2 : L2.St} (a : But is σ σ1) (b : But js σ1 σ2) : But (is ++ js) σ σ2 :=
  ⟨b.len.trans a.len, fun j h => (b.same j fun z => h (List.mem_append_right _ z)).trans (a.same j fun z => h (List.mem_append_left _ z))⟩
theorem gts_ok {K : Frag} {g : Gh} {H : Hp} : ∀ (is : List Nat) (σ : L2.St) (env env' : Env) (ds : List D) (vs : List V) (Q : L2.St → Hp → Prop), RE K g H env σ → RDs K g H ds vs → asgL is ds env = some env' →
    (∀ σ', RE K g H env' σ' → But is σ σ' → Q σ' H) → gtsOf is vs σ H Q
  | [], σ, env, env', ds, vs, Q, E, r, e, q => by
    cases ds with
    | nil => cases r; cases e; exact ⟨rfl, q σ E ⟨rfl, fun _ _ => rfl⟩⟩
    | cons d ds => cases e
  | i :: is, σ, env, env', ds, vs, Q, E, r, e, q => by
    cases ds with
    | nil => cases e
    | cons d ds =>
      obtain ⟨v, us, rfl, r1, r2⟩ := r
      exact ⟨v, us, rfl, gts_ok is _ _ env' ds us Q (E.set i r1) r2 e fun σ' E' b => q σ' E' (But.trans (is := [i]) .set b)⟩
theorem asgL_len {env' : Env} : ∀ (is : List Nat) (ds : List D) (env : Env), asgL is ds env = some env' → ds.length = is.length
  | [], [], _, _ => rfl
  | [], _ :: _, _, e => by cases e
  | _ :: _, [], _, e => by cases e
  | i :: is, d :: ds, env, e => by
    have := asgL_len is ds _ e
    simp [this]
theorem tg_ok {K : Frag} {g : Gh} {s : S} {H : Hp} {t : Tg} {σ : L2.St} {env env' : Env} {d : D} {v : V} {Q : L2.St → Hp → Prop} (R : Rel K g s H) (E : RE K g H env σ) (r : RD K g H d v) (e : asg t d s env = some env')
    (q : ∀ σ', RE K g H env' σ' → But (slots t) σ σ' → Q σ' H) : gtOf K t v σ H Q := by
  cases t with
  | name i => cases e; exact q _ (E.set i r) .set
  | tup is =>
    have e' : (match seqOf d s with | some ds => asgL is ds env | none => none) = some env' := e
    split at e'
    · rename_i ds hs
      have ln := asgL_len is ds env e'
      have sq : (∃ p vs, v = .ref p ∧ SqL K H p vs ∧ RDs K g H ds vs) ∨ ∃ p vs, v = .ref p ∧ SqT K H p vs ∧ RDs K g H ds vs := by
        cases d with
        | tup xs =>
          cases hs
          obtain ⟨p, vs, e1, e2, e3⟩ := r
          exact .inr ⟨p, vs, e1, .of e2, e3⟩
        | ct xs =>
          cases hs
          obtain ⟨p, vs, e1, e2, e3⟩ := r
          exact .inr ⟨p, vs, e1, e2.tup, e3⟩
        | _ => exact .inl (lst_ok R r hs)
      rcases sq with ⟨p, vs, rfl, e2, e3⟩ | ⟨p, vs, rfl, e2, e3⟩
      · exact .inr ⟨p, vs, rfl, e2, by rw [← e3.length]; exact ln, gts_ok is σ env env' ds vs Q E e3 e' q⟩
      · exact .inl ⟨p, vs, rfl, e2, by rw [← e3.length]; exact ln, gts_ok is σ env env' ds vs Q E e3 e' q⟩
    · cases e'
theorem pgx_name {i : Nat} {x : Str} (hN : X.N.Nodup) (hi : X.N[i]? = some x) (hx : Loc X.env.scope x) (hf : X.fn x = true ∨ X.env.scope.names.lookup x = some .local) : PGX X (.Name x pos) (.name i) := pg_name hN hi hx hf
theorem pgsx_nil : PGsX X [] [] := pgs_nil
theorem pgsx_cons {i : Nat} {is : List Nat} {x : Str} {es : List Expr} (hN : X.N.Nodup) (hi : X.N[i]? = some x) (hx : Loc X.env.scope x) (hf : X.fn x = true ∨ X.env.scope.names.lookup x = some .local) (h : PGsX X es is) : PGsX X (.Name x pos :: es) (i :: is) := pgs_cons (pg_name hN hi hx hf) h
theorem PG.or {e : Expr} {t t' : TG} (h : PG X e t) (h' : PG X e t') : PG X e (fun v σ H Q => t v σ H Q ∨ t' v σ H Q) := ⟨fun pins s σ H v u Q I r q => q.elim (h.run pins s σ H v u Q I r) (h'.run pins s σ H v u Q I r)⟩
theorem pgx_tup {k : Nat} {es : List Expr} {is : List Nat} (hc : X.calm = true) (hst : (assignEach es X.env).findIdx? (·.1) = none) (hl : (assignEach es X.env).length = is.length) (h : PGsX X es is) : PGX X (.Tuple es k pos) (.tup is) :=
  PG.or (pg_tup hc h hl hst) (pg_unl hc h hl hst)
/-! ### stores -/
def setM (i : Nat) (m : ME D) : MS := fun env s => bs (m env s) env fun d s1 => .ok (.nx, env.set i (some d)) s1
theorem ps_set' {i : Nat} {x : Str} {pos' : Pos} (hN : X.N.Nodup) (hi : X.N[i]? = some x) (hx : Loc X.env.scope x) (hf : X.fn x = true ∨ X.env.scope.names.lookup x = some .local)
    (hs : swapsWith a (some (.Name x pos')) pos.line X.env = pure false) (ha : PX X W a ma) : PSX X W (.Assign [.Name x pos'] a pos) (setM i ma) :=
  PS.imp (ps_set hN hi hx ha hs hf) fun σ H D h => (TS'.bind (rel := RD X.K) h).imp fun v H1 ⟨g1, d, s1, env, R1, E1, r1, p1⟩ => p1 g1 H1 _ (.refl _ _) R1 (E1.set i r1)
def setT (t : Tg) (m : ME D) : MS := fun env s => bs (m env s) env fun d s1 => match asg t d s1 env with
  | some env' => .ok (.nx, env') s1
  | none => .bad
theorem ps_setT {tg : Expr} {t : Tg} (hg : PGX X tg t) (hs : swapsWithSole [tg] a pos.line X.env = pure false) (hw : swappedStores [tg] a X.env = pure none) (h1 : (assignEach [tg] X.env).map (·.2) = [assign tg X.env])
    (ha : PX X W a ma) : PSX X W (.Assign [tg] a pos) (setT t ma) := by
  refine PS.imp (ps_asg ha hg hs hw h1) fun σ H D h => (TS'.bind (rel := RD X.K) h).imp fun v H1 ⟨g1, d, s1, env, R1, E1, r1, p1⟩ => ?_
  cases e : asg t d s1 env with
  | none => simp only [e] at p1; exact p1.elim
  | some env' =>
    simp only [e] at p1
    exact tg_ok R1 E1 r1 e fun σ' E' _ => p1 g1 H1 σ' (.refl _ _) R1 E'
def intOf : D → Option Int
  | .int i => some i
  | _ => none
theorem intOf_ok {K : Frag} {g : Gh} {H : Hp} {d : D} {v : V} {i : Int} (r : RD K g H d v) (e : intOf d = some i) : v = .int i := by
  cases d with
  | int j => cases e; exact r
  | _ => cases e
/-- o[i] = v -/
def putF (o i v : D) (s : S) : Option S := match o with
  | .ref a => match s.heap a with
    | some (.lst ds) => match intOf i with
      | some k => match ixN ds.length k with
        | some j => some (s.upd a (.lst (ds.set j v)))
        | none => none
      | none => none
    | some (.dK kvs) => match keyOf i with
      | some k => if kvs.length < LINE then some (s.upd a (.dK (putD kvs k v))) else none
      | none => none
    | some (.dT kvs) => match keyT i with
      | some k => if kvs.length < LINE then some (s.upd a (.dT (putD kvs k v))) else none
      | none => none
    | _ => none
  | _ => none
def rPutD : TSet := fun o i v H Q => ∃ a H', o = .ref a ∧ DPut H a i v H' ∧ Q H'
theorem set_dict (hu : X.A.units + 1 < cLine) : PSet X rPutD := by
  intro pins s σ H o i v ov iv u Q I ro ri rv h
  obtain ⟨p, H', rfl, hp, q⟩ := h
  cases ro
  exact d_setItem hu I hp ri rv fun s' I' => ⟨H', I', q⟩
theorem PSet.or {t t' : TSet} (h : PSet X t) (h' : PSet X t') : PSet X (fun o i v H Q => t o i v H Q ∨ t' o i v H Q) := by
  intro pins s σ H o i v ov iv u Q I ro ri rv q
  rcases q with q | q
  · exact h pins s σ H o i v ov iv u Q I ro ri rv q
  · exact h' pins s σ H o i v ov iv u Q I ro ri rv q
def rPutF : TSet := fun o i v H Q => rSetL o i v H Q ∨ rPutD o i v H Q
theorem putK_rel {κ : Type} [DecidableEq κ] {K : Frag} {g : Gh} {H : Hp} {d : D} {v : V} (k : κ) (rv : RD K g H d v) {kvs : List (κ × D)} {ws : List (κ × V)} (e : ws.map (·.1) = kvs.map (·.1)) (r : RDs K g H (kvs.map (·.2)) (ws.map (·.2))) :
    (putK ws k v).map (·.1) = (putD kvs k d).map (·.1) ∧ RDs K g H ((putD kvs k d).map (·.2)) ((putK ws k v).map (·.2)) := by
  have ea : (ws.any fun kv => decide (kv.1 = k)) = kvs.any fun kv => decide (kv.1 = k) := by
    have h1 : (ws.any fun kv => decide (kv.1 = k)) = (ws.map (·.1)).any fun x => decide (x = k) := by rw [List.any_map]; rfl
    have h2 : (kvs.any fun kv => decide (kv.1 = k)) = (kvs.map (·.1)).any fun x => decide (x = k) := by rw [List.any_map]; rfl
    rw [h1, h2, e]
  unfold putK putD
  rw [ea]
  by_cases h : (kvs.any fun kv => decide (kv.1 = k)) = true
  · rw [if_pos h, if_pos h]
    clear h ea
    induction kvs generalizing ws with
    | nil => cases ws with
      | nil => exact ⟨rfl, rfl⟩
      | cons w ws => simp at e
    | cons p kvs ih =>
      cases ws with
      | nil => simp at e
      | cons w ws =>
        obtain ⟨pk, pd⟩ := p
        obtain ⟨wk, wv⟩ := w
        simp only [List.map_cons, List.cons.injEq] at e
        obtain ⟨e1, e2⟩ := e
        subst e1
        obtain ⟨v', r', e3, h1, h2⟩ := r
        simp only [List.map_cons, List.cons.injEq] at e3
        obtain ⟨e4, e5⟩ := e3
        subst e4 e5
        obtain ⟨i1, i2⟩ := ih e2 h2
        by_cases hk : wk = k
        · subst hk
          simp only [List.map_cons, if_pos]
          exact ⟨by rw [i1], .cons rv i2⟩
        · simp only [List.map_cons, if_neg hk]
          exact ⟨by rw [i1], .cons h1 i2⟩
  · rw [if_neg h, if_neg h]
    refine ⟨by rw [List.map_append, List.map_append, e]; rfl, ?_⟩
    rw [List.map_append, List.map_append]
    exact r.append (.cons rv .nil)
theorem len_of_map {α β γ : Type} {f : α → γ} {h : β → γ} {xs : List α} {ys : List β} (e : xs.map f = ys.map h) : xs.length = ys.length := by
  have := congrArg List.length e
  simpa using this
/-- the store's reading: o, i, v by values -/
theorem putF_ok {K : Frag} {g : Gh} {s s' : S} {H : Hp} {o i v : D} {ov iv vv : V} {Q : Hp → Prop} (R : Rel K g s H) (ro : RD K g H o ov) (ri : RD K g H i iv) (rv : RD K g H v vv) (e : putF o i v s = some s')
    (h : ∀ H', Stp g H g H' → Rel K g s' H' → Q H') : rPutF ov iv vv H Q := by
  cases o with
  | ref a =>
    obtain ⟨p, rfl, hm⟩ := ro
    have e' : (match s.heap a with
      | some (.lst ds) => match intOf i with
        | some k => match ixN ds.length k with
          | some j => some (s.upd a (.lst (ds.set j v)))
          | none => none
        | none => none
      | some (.dK kvs) => match keyOf i with
        | some k => if kvs.length < LINE then some (s.upd a (.dK (putD kvs k v))) else none
        | none => none
      | some (.dT kvs) => match keyT i with
        | some k => if kvs.length < LINE then some (s.upd a (.dT (putD kvs k v))) else none
        | none => none
      | _ => none) = some s' := e
    split at e'
    · rename_i ds ha
      split at e'
      · rename_i k hk
        split at e'
        · rename_i j hj
          cases e'
          have ek := intOf_ok ri hk
          subst ek
          obtain ⟨q, h1, _, vs, h3, h4⟩ := R.obj a _ ha
          rw [hm] at h1; cases h1
          have F := R.freeAt ha rfl hm
          have st := stp_free (o := .lst (vs.set j vv)) F.1 F.2
          exact .inl ⟨p, vs, k, j, rfl, rfl, h3, by rw [← h4.length]; exact hj, h _ st (R.upd ha rfl hm ⟨_, upd_same, RDs.mono st.toStp0 _ _ (RDs.set rv j h4)⟩)⟩
        · cases e'
      · cases e'
    · rename_i kvs ha
      split at e'
      · rename_i k hk
        split at e'
        · rename_i hl
          cases e'
          obtain ⟨q, h1, _, ws, h3, h4, h5⟩ := R.obj a _ ha
          rw [hm] at h1; cases h1
          have F := R.freeAt ha rfl hm
          have st := stp_free (o := .dK (putK ws k vv)) F.1 F.2
          obtain ⟨p1, p2⟩ := putK_rel k rv h4 h5
          refine .inr ⟨p, _, rfl, .inl ⟨ws, k, h3, keyOf_ok ri hk, by rw [len_of_map h4]; exact hl, rfl⟩, h _ st (R.upd ha rfl hm ⟨_, upd_same, p1, RDs.mono st.toStp0 _ _ p2⟩)⟩
        · cases e'
      · cases e'
    · rename_i kvs ha
      split at e'
      · rename_i k hk
        split at e'
        · rename_i hl
          cases e'
          obtain ⟨q, h1, _, ws, h3, h4, h5⟩ := R.obj a _ ha
          rw [hm] at h1; cases h1
          have F := R.freeAt ha rfl hm
          have st := stp_free (o := .dT (putK ws k vv)) F.1 F.2
          obtain ⟨p1, p2⟩ := putK_rel k rv h4 h5
          cases i with
          | tup ds =>
            obtain ⟨b, us, rfl, f1, f2⟩ := ri
            have f3 : us = k.map kV := keysOf_ok f2 hk
            subst f3
            exact .inr ⟨p, _, rfl, .inr ⟨ws, k, b, h3, rfl, f1, by rw [len_of_map h4]; exact hl, rfl⟩, h _ st (R.upd ha rfl hm ⟨_, upd_same, p1, RDs.mono st.toStp0 _ _ p2⟩)⟩
          | _ => cases hk
        · cases e'
      · cases e'
    · cases e'
  | _ => cases e
def setI (mo mi mv : ME D) : MS := fun env s => bs (mv env s) env fun v s1 => bs (mo env s1) env fun o s2 => bs (mi env s2) env fun i s3 => match putF o i v s3 with
  | some s4 => .ok (.nx, env) s4
  | none => .bad
theorem swaps_sub {e : Expr} {o i : Expr} {p : Pos} {l : Nat} {env : PySem.Env} : swapsWith e (some (.Subscript o i p)) l env = pure false := by
  cases e <;> rfl
theorem ps_setI {p' : Pos} (hu : X.A.units + 1 < cLine) (hasg : ∀ v, assign (.Subscript a b p') X.env v = (do
      let ov ← holding [v] (eval a X.env)
      let iv ← holding [v, ov] (eval b X.env)
      standAt p'
      holding [v, ov, iv] (setItem ov iv v)
      release [v, ov, iv] [])) (hw : swappedStores [.Subscript a b p'] c X.env = pure none) (ha : PX X W a ma) (hb : PX X W b mb) (hc : PX X W c mc) : PSX X W (.Assign [.Subscript a b p'] c pos) (setI ma mb mc) := by
  have hsw : swapsWithSole [.Subscript a b p'] c pos.line X.env = pure false := swaps_sub (e := c) (o := a) (i := b) (p := p') (l := pos.line) (env := X.env)
  refine PS.imp (ps_asg hc (pg_sub ha hb (PSet.or set_list (set_dict hu)) hasg) hsw hw rfl) fun σ H D h => (TS'.bind (rel := RD X.K) h).imp fun vv H1 ⟨g1, v, s1, env, R1, E1, r1, p1⟩ => ?_
  refine TX.mk R1 E1 ((PostS.bind (rel := RD X.K) E1 p1).imp fun ov H2 ⟨g2, o, s2, st2, R2, r2, p2⟩ => ?_)
  refine TX.mk R2 (E1.mono st2.toStp0) ((PostS.bind (rel := RD X.K) (E1.mono st2.toStp0) p2).imp fun iv H3 ⟨g3, i, s3, st3, R3, r3, p3⟩ => ?_)
  cases e : putF o i v s3 with
  | none => simp only [e] at p3; exact p3.elim
  | some s4 =>
    simp only [e] at p3
    exact putF_ok R3 (RD.mono st3.toStp0 _ _ r2) r3 (RD.mono (st2.trans st3).toStp0 _ _ r1) e fun H' st R' => p3 g3 H' σ st R' (E1.mono ((st2.trans st3).trans st).toStp0)
/-- o.f = v -/
def setFF (c f : Str) (o v : D) (s : S) : Option S := match o with
  | .ref a => match s.heap a with
    | some (.ins c' fs) => if c' = c ∧ fs.length < 1000 then some (s.upd a (.ins c' (putFD f v fs))) else none
    | _ => none
  | _ => none
theorem putF_rel {K : Frag} {g : Gh} {H : Hp} {d : D} {v : V} {f : Str} (rv : RD K g H d v) : ∀ {fs : List (Str × D)} {ws : List (Str × V)}, ws.map (·.1) = fs.map (·.1) → RDs K g H (fs.map (·.2)) (ws.map (·.2)) →
    (L2.putF f v ws).map (·.1) = (putFD f d fs).map (·.1) ∧ RDs K g H ((putFD f d fs).map (·.2)) ((L2.putF f v ws).map (·.2))
  | [], [], _, _ => ⟨rfl, .cons rv .nil⟩
  | [], _ :: _, e, _ => by simp at e
  | _ :: _, [], e, _ => by simp at e
  | (a, x) :: fs, (b, y) :: ws, e, r => by
    simp only [List.map_cons, List.cons.injEq] at e
    obtain ⟨e1, e2⟩ := e
    subst e1
    obtain ⟨v', r', e3, h1, h2⟩ := r
    simp only [List.map_cons, List.cons.injEq] at e3
    obtain ⟨e4, e5⟩ := e3
    subst e4 e5
    obtain ⟨i1, i2⟩ := putF_rel (f := f) rv e2 h2
    unfold L2.putF putFD
    by_cases h : b = f
    · rw [if_pos h, if_pos h]
      exact ⟨by simp [e2], .cons rv h2⟩
    · rw [if_neg h, if_neg h]
      exact ⟨by simp [i1], .cons h1 i2⟩
def setF (c f : Str) (mo mv : ME D) : MS := fun env s => bs (mv env s) env fun v s1 => bs (mo env s1) env fun o s2 => match setFF c f o v s2 with
  | some s3 => .ok (.nx, env) s3
  | none => .bad
theorem swaps_attr {e : Expr} {o : Expr} {f : Str} {p : Pos} {l : Nat} {env : PySem.Env} : swapsWith e (some (.Attribute o f p)) l env = pure false := by
  cases e <;> rfl
theorem setFF_ok {K : Frag} {g : Gh} {s s' : S} {H : Hp} {cn f : Str} {o v : D} {ov vv : V} (R : Rel K g s H) (ro : RD K g H o ov) (rv : RD K g H v vv) (e : setFF cn f o v s = some s') :
    ∃ a dx ws, ov = .ref a ∧ H a = some (.ins (He.ga K cn) dx ws) ∧ ws.length < 1000 ∧ Stp g H g (upd H a (.ins (He.ga K cn) dx (L2.putF f vv ws))) ∧ Rel K g s' (upd H a (.ins (He.ga K cn) dx (L2.putF f vv ws))) := by
  cases o with
  | ref a =>
    obtain ⟨p, rfl, hm⟩ := ro
    have e' : (match s.heap a with
      | some (.ins c' fs) => if c' = cn ∧ fs.length < 1000 then some (s.upd a (.ins c' (putFD f v fs))) else none
      | _ => none) = some s' := e
    split at e'
    · rename_i c' fs ha
      by_cases hc : c' = cn ∧ fs.length < 1000
      · rw [if_pos hc] at e'
        cases e'
        obtain ⟨rfl, hl⟩ := hc
        obtain ⟨q, h1, _, dx, ws, h3, h4, h5⟩ := R.obj a _ ha
        rw [hm] at h1; cases h1
        have F := R.freeAt ha rfl hm
        have st := stp_free (o := .ins (He.ga K c') dx (L2.putF f vv ws)) F.1 F.2
        obtain ⟨p1, p2⟩ := putF_rel (f := f) rv h4 h5
        exact ⟨p, dx, ws, rfl, h3, by rw [len_of_map h4]; exact hl, st, R.upd ha rfl hm ⟨dx, _, upd_same, p1, RDs.mono st.toStp0 _ _ p2⟩⟩
      · rw [if_neg hc] at e'; cases e'
    · cases e'
  | _ => cases e
theorem ps_setF {cn f : Str} {p' : Pos} (cl : Cls X.K (He.ga X.K cn)) (na : NoAttr X.K (He.ga X.K cn) f) (ha : PX X W a ma) (hc : PX X W c mc) : PSX X W (.Assign [.Attribute a f p'] c pos) (setF cn f ma mc) := by
  refine PS.imp (ps_fld ha hc swaps_attr) fun σ H D h => (TS'.bind (rel := RD X.K) h).imp fun vv H1 ⟨g1, v, s1, env, R1, E1, r1, p1⟩ => ?_
  refine TX.mk R1 E1 ((PostS.bind (rel := RD X.K) E1 p1).imp fun ov H2 ⟨g2, o, s2, st2, R2, r2, p2⟩ => ?_)
  cases e : setFF cn f o v s2 with
  | none => simp only [e] at p2; exact p2.elim
  | some s3 =>
    simp only [e] at p2
    obtain ⟨q, dx, ws, rfl, h3, h4, st, R3⟩ := setFF_ok R2 r2 (RD.mono st2.toStp0 _ _ r1) e
    exact ⟨q, _, dx, ws, rfl, h3, cl, na, h4, p2 g2 _ σ st R3 (E1.mono (st2.trans st).toStp0)⟩
/-- x += e (ints) -/
def augM (i : Nat) (f : D → D → S → R D) (m : ME D) : MS := fun env s => match env[i]? with
  | some (some x) => bs (m env s) env fun y s1 => bs (f x y s1) env fun z s2 => .ok (.nx, env.set i (some z)) s2
  | _ => .bad
theorem ps_aug' {i : Nat} {x : Str} {op : Operator} {r : R2} {f : D → D → S → R D} {p' : Pos} (hN : X.N.Nodup) (hi : X.N[i]? = some x) (hx : Loc X.env.scope x) (hf : X.fn x = true ∨ X.env.scope.names.lookup x = some .local)
    (ho : PIp X op r) (h2 : Op2 X.K r f) (ha : PX X W a ma) : PSX X W (.AugAssign (.Name x p') op a pos) (augM i f ma) := by
  refine PS.imp (ps_aug hN hi hx ha ho hf) fun σ H D ⟨g, s, env, R, E, p⟩ => ?_
  unfold augM at p
  split at p
  · rename_i d hd
    obtain ⟨v, h1, rv⟩ := E.2 i d hd
    refine ⟨v, h1, TX.mk R E ((PostS.bind (rel := RD X.K) E p).imp fun w H1 ⟨g1, y, s1, st1, R1, r1, p1⟩ => ?_)⟩
    exact h2 W g1 s1 H1 σ d y v w _ R1 (RD.mono st1.toStp0 _ _ rv) r1 ((PostS.bind (rel := RD X.K) (E.mono st1.toStp0) p1).imp fun u H2 ⟨g2, z, s2, st2, R2, r2, p2⟩ => p2 g2 H2 _ (.refl _ _) R2 ((E.mono (st1.trans st2).toStp0).set i r2))
  · exact p.elim
end
end Co
namespace Co
open PySem PySem.Spec PyProof.Rows L2
/-! ### while -/
/-- n turns at most: none where they do not do -/
def whileN (c : ME Bool) (b : MS) : Nat → Env → S → Option (R (Fl × Env))
  | 0, _, _ => none
  | n + 1, env, s => match c env s with
    | .ok true s1 => match b env s1 with
      | .ok (.nx, env2) s2 => whileN c b n env2 s2
      | .ok (.ct, env2) s2 => whileN c b n env2 s2
      | .ok (.bk, env2) s2 => some (.ok (.nx, env2) s2)
      | r => some r
    | .ok false s1 => some (.ok (.nx, env) s1)
    | .exc c fs s1 => some (.ok (.ex c fs, env) s1)
    | .bad => some .bad
open Classical in
noncomputable def whileM (c : ME Bool) (b : MS) : MS := fun env s => if h : ∃ n r, whileN c b n env s = some r then choose (choose_spec h) else .bad
theorem whileM_is {c : ME Bool} {b : MS} {env : Env} {s : S} (h : whileM c b env s ≠ .bad) : ∃ n, whileN c b n env s = some (whileM c b env s) := by
  unfold whileM at h ⊢
  by_cases hh : ∃ n r, whileN c b n env s = some r
  · rw [dif_pos hh] at h ⊢
    exact ⟨_, Classical.choose_spec (Classical.choose_spec hh)⟩
  · rw [dif_neg hh] at h
    exact absurd rfl h
section
variable {X : Cx} {W : WX} {c : Expr} {body : List Stmt} {pos : Pos} {nc : ME Bool} {b : MS}
theorem ps_while' (hp : PassesOwn (model X.prog X.w) X.A X.env X.xe) (hc : PB X W c nc) (hb : PSB X W body b) : PSX X W (.While c body [] pos) (whileM nc b) := by
  refine PS.imp (ps_while hp hc hb) fun σ H D ⟨g, s, env, R, E, p⟩ => ?_
  have hne : whileM nc b env s ≠ .bad := fun e => by rw [e] at p; exact p
  obtain ⟨n, hn⟩ := whileM_is hne
  refine ⟨fun m σ H => ∃ g s env r, Rel X.K g s H ∧ RE X.K g H env σ ∧ whileN nc b m env s = some r ∧ PostS X.K W g H r D, ⟨n, g, s, env, _, R, E, hn, p⟩, fun m σ H h => ?_⟩
  obtain ⟨g, s, env, r, R, E, e, p⟩ := h
  cases m with
  | zero => cases e
  | succ m =>
    unfold whileN at e
    refine TX.mk (rel := Eqr) R E ?_
    cases hcs : nc env s with
    | ok k s1 =>
      intro g1 H1 k' st1 R1 ek
      subst ek
      cases k with
      | false =>
        simp only [hcs] at e
        cases e
        rw [if_neg Bool.false_ne_true]
        exact p g1 H1 σ st1 R1 (E.mono st1.toStp0)
      | true =>
        simp only [hcs] at e
        rw [if_pos rfl]
        refine ⟨fun σ' H' => ∃ m', m' < m + 1 ∧ ∃ g s env r, Rel X.K g s H' ∧ RE X.K g H' env σ' ∧ whileN nc b m' env s = some r ∧ PostS X.K W g H' r D, fun σ' H' h => h, g1, s1, env, R1, E.mono st1.toStp0, ?_⟩
        cases hbs : b env s1 with
        | ok fe s2 =>
          obtain ⟨f, env2⟩ := fe
          simp only [hbs] at e
          intro g2 H2 σ2 st2 R2 E2
          have st := st1.trans st2
          cases f with
          | nx => exact ⟨m, Nat.lt_succ_self _, g2, s2, env2, r, R2, E2, e, PostS.later st p⟩
          | ct => exact ⟨m, Nat.lt_succ_self _, g2, s2, env2, r, R2, E2, e, PostS.later st p⟩
          | bk => cases e; exact p g2 H2 σ2 st R2 E2
          | rt d => cases e; exact p g2 H2 σ2 st R2 E2
          | ex c' fs => cases e; exact p g2 H2 σ2 st R2 E2
        | exc c' fs s2 => simp only [hbs] at e; cases e; exact p
        | bad => simp only [hbs] at e; cases e; exact p
    | exc c' fs s1 =>
      simp only [hcs] at e
      cases e
      exact fun g1 H1 d st1 R1 x => p g1 H1 σ st1 R1 (E.mono st1.toStp0) d x
    | bad => simp only [hcs] at e; cases e; exact p
end
/-! ### what is walked -/
/-- the items, and an object that is to stay as it is -/
abbrev Itm := List D × Option (Nat × Ob)
def GdOk (gd : Option (Nat × Ob)) (s : S) : Prop := match gd with
  | none => True
  | some (a, o) => s.heap a = some o
/-- an iterator of HandS walks just these items, as long as the guard stands -/
def ItOk (K : Frag) (g : Gh) (H : Hp) (J : It) (im : Itm) : Prop := ∀ (g1 : Gh) (H1 : Hp) (s1 : S), Stp g H g1 H1 → Rel K g1 s1 H1 → GdOk im.2 s1 →
  J.stop im.1.length H1 ∧ ∀ (i : Nat) (d : D), im.1[i]? = some d → J.go i H1 ∧ ∀ x H2, J.yld i H1 x H2 → ∃ g2, Stp g1 H1 g2 H2 ∧ Rel K g2 s1 H2 ∧ RD K g2 H2 d x
def TI' (K : Frag) (W : WX) (m : ME Itm) : TI := fun σ H R' => TX K W (fun g H im J => ItOk K g H J im) m σ H R'
abbrev PIX (X : Cx) (W : WX) (tg iter : Expr) (m : ME Itm) : Prop := PI X tg iter (TI' X.K W m)
theorem PI.imp {X : Cx} {tg e : Expr} {t t' : TI} (h : PI X tg e t) (i : ∀ σ H Q, t' σ H Q → t σ H Q) : PI X tg e t' := ⟨fun pins s σ H Q I q => h.run pins s σ H Q I (i σ H Q q)⟩
section
variable {X : Cx} {W : WX} {tg a b : Expr} {pos p : Pos} {ma mb : ME D}
/-- lo, lo + 1, .. -/
def rngD (lo : Int) (n : Nat) : List D := (List.range n).map fun (k : Nat) => D.int (lo + (k : Int))
theorem itOk_rng {K : Frag} {g : Gh} {H : Hp} {lo : Int} {n : Nat} : ItOk K g H (Itr lo n) (rngD lo n, none) := by
  intro g1 H1 s1 st R _
  have hl : (rngD lo n).length = n := by simp [rngD]
  refine ⟨by show n ≤ (rngD lo n).length; omega, fun i d e => ?_⟩
  have hi : i < n := by
    have := (List.getElem?_eq_some_iff.mp e).1
    simpa [rngD] using this
  have ed : d = .int (lo + i) := by
    simp only [rngD, List.getElem?_map, List.getElem?_range hi] at e
    cases e; rfl
  subst ed
  refine ⟨hi, fun x H2 y => ?_⟩
  obtain ⟨rfl, rfl⟩ := y
  exact ⟨g1, .refl _ _, R, rfl⟩
/-- bounds that are small (never reckoned) -/
def Rg1 (j : Int) : Prop := -(2 ^ 62) ≤ j ∧ j < 2 ^ 62
def Rg2 (i j : Int) : Prop := -(2 ^ 62) ≤ i ∧ i < 2 ^ 62 ∧ -(2 ^ 62) ≤ j ∧ j < 2 ^ 62
noncomputable instance (j : Int) : Decidable (Rg1 j) := Classical.propDecidable _
noncomputable instance (i j : Int) : Decidable (Rg2 i j) := Classical.propDecidable _
noncomputable def rngF1 (x : D) (s : S) : R Itm := match x with
  | .int j => if Rg1 j then .ok (rngD 0 j.toNat, none) s else .bad
  | _ => .bad
noncomputable def rng1M (m : ME D) : ME Itm := fun env s => bd (m env s) rngF1
theorem pi_rng1 (hg : Gl X "range") (hm : X.mg "range" = none) (hs : starEach [a] X.env = (false, eval a X.env) :: starEach [] X.env) (ha : PX X W a ma) : PIX X W tg (.Call (.Name "range" p) [a] [] pos) (rng1M ma) := by
  have hpl : PL X W [a] (consM ma nilM) := pl_cons hs ha pl_nil
  refine PI.imp (pi_range1 hg hm hpl hs) fun σ H Q h => ?_
  have h' : TX X.K W (RDs X.K) (consM ma nilM) σ H (fun vs H1 => ∃ j : Int, vs = [.int j] ∧ -(2 ^ 62) ≤ j ∧ j < 2 ^ 62 ∧ Q (Itr 0 j.toNat) H1) := by
    obtain ⟨g, s, env, R, E, q⟩ := h
    refine ⟨g, s, env, R, E, ?_⟩
    have q : Post X.K W g H σ (fun g H im J => ItOk X.K g H J im) (bd (ma env s) rngF1) Q := q
    unfold consM nilM
    cases hm : ma env s with
    | ok x s1 =>
      rw [hm] at q
      intro g1 H1 vs st R1 r
      obtain ⟨v, us, rfl, r1, r2⟩ := r
      cases r2
      cases x with
      | int j =>
        cases r1
        have q' : Post X.K W g H σ (fun g H im J => ItOk X.K g H J im) (if Rg1 j then .ok (rngD 0 j.toNat, none) s1 else .bad) Q := q
        by_cases hj : Rg1 j
        · rw [if_pos hj] at q'
          exact ⟨j, rfl, hj.1, hj.2, q' g1 H1 _ st R1 itOk_rng⟩
        · rw [if_neg hj] at q'; exact q'.elim
      | _ => exact q.elim
    | exc c fs s1 => rw [hm] at q; exact q
    | bad => rw [hm] at q; exact q
  exact h'
noncomputable def rngF2 (x y : D) (s : S) : R Itm := match x, y with
  | .int i, .int j => if Rg2 i j then .ok (rngD i (j - i).toNat, none) s else .bad
  | _, _ => .bad
noncomputable def rng2M (m n : ME D) : ME Itm := fun env s => bd (m env s) fun x s1 => bd (n env s1) fun y s2 => rngF2 x y s2
theorem pi_rng2 (hg : Gl X "range") (hm : X.mg "range" = none) (hs : starEach [a, b] X.env = (false, eval a X.env) :: starEach [b] X.env) (hs2 : starEach [b] X.env = (false, eval b X.env) :: starEach [] X.env) (ha : PX X W a ma) (hb : PX X W b mb) :
    PIX X W tg (.Call (.Name "range" p) [a, b] [] pos) (rng2M ma mb) := by
  have hpl : PL X W [a, b] (consM ma (consM mb nilM)) := pl_cons hs ha (pl_cons hs2 hb pl_nil)
  refine PI.imp (pi_range2 hg hm hpl (by rw [hs, hs2]; rfl) hs2) fun σ H Q h => ?_
  have h' : TX X.K W (RDs X.K) (consM ma (consM mb nilM)) σ H (fun vs H1 => ∃ i j : Int, vs = [.int i, .int j] ∧ (-(2 ^ 62) ≤ i ∧ i < 2 ^ 62 ∧ -(2 ^ 62) ≤ j ∧ j < 2 ^ 62) ∧ Q (Itr i (j - i).toNat) H1) := by
    obtain ⟨g, s, env, R, E, q⟩ := h
    refine ⟨g, s, env, R, E, ?_⟩
    have q : Post X.K W g H σ (fun g H im J => ItOk X.K g H J im) (bd (ma env s) fun x s1 => bd (mb env s1) fun y s2 => rngF2 x y s2) Q := q
    unfold consM nilM
    cases hm : ma env s with
    | ok x s1 =>
      rw [hm] at q
      have q : Post X.K W g H σ (fun g H im J => ItOk X.K g H J im) (bd (mb env s1) fun y s2 => rngF2 x y s2) Q := q
      show Post X.K W g H σ (RDs X.K) (bd (bd (mb env s1) fun d s1 => bd (.ok [] s1) fun ds s2 => .ok (d :: ds) s2) fun ds s2 => .ok (x :: ds) s2) _
      cases hm2 : mb env s1 with
      | ok y s2 =>
        rw [hm2] at q
        intro g1 H1 vs st R1 r
        obtain ⟨v, us, rfl, r1, v2, us2, rfl, r2, r3⟩ := r
        cases r3
        have q : Post X.K W g H σ (fun g H im J => ItOk X.K g H J im) (rngF2 x y s2) Q := q
        cases x with
        | int i =>
          cases y with
          | int j =>
            cases r1; cases r2
            have q' : Post X.K W g H σ (fun g H im J => ItOk X.K g H J im) (if Rg2 i j then .ok (rngD i (j - i).toNat, none) s2 else .bad) Q := q
            by_cases hj : Rg2 i j
            · rw [if_pos hj] at q'
              exact ⟨i, j, rfl, hj, q' g1 H1 _ st R1 itOk_rng⟩
            · rw [if_neg hj] at q'; exact q'.elim
          | _ => exact q.elim
        | _ => cases y <;> exact q.elim
      | exc c fs s2 => rw [hm2] at q; exact q
      | bad => rw [hm2] at q; exact q
    | exc c fs s1 => rw [hm] at q; exact q
    | bad => rw [hm] at q; exact q
  exact h'
/-- the guard of a value that is walked -/
def gdOf (x : D) (s : S) : Option (Nat × Ob) := match x with
  | .ref a => match s.heap a with
    | some o => some (a, o)
    | none => none
  | _ => none
/-- a list -/
def lstIt (x : D) (s : S) : R Itm := match lstOf x s with
  | some ds => .ok (ds, gdOf x s) s
  | none => .bad
def lstItM (m : ME D) : ME Itm := fun env s => bd (m env s) lstIt
theorem itOk_list {K : Frag} {g : Gh} {s : S} {H : Hp} {x : D} {ds : List D} {q : Addr} (R : Rel K g s H) (r : RD K g H x (.ref q)) (e : lstOf x s = some ds) : (∃ vs, SqL K H q vs) ∧ ItOk K g H (Itl K q) (ds, gdOf x s) := by
  obtain ⟨p, vs, ep, e2, e3⟩ := lst_ok R r e
  cases ep
  refine ⟨⟨vs, e2⟩, fun g1 H1 s1 st R1 gd => ?_⟩
  have now : ∃ vs, SqL K H1 q vs ∧ RDs K g1 H1 ds vs := by
    cases x with
    | lv xs =>
      cases e
      obtain ⟨p, us, ep, z, h1, h2⟩ := r
      cases ep
      exact ⟨us, .of ((st.z q z).2.trans h1), RDs.mono st.toStp0 _ _ h2⟩
    | sc xs =>
      cases e
      obtain ⟨p, us, ep, h1, h2⟩ := r
      cases ep
      exact ⟨us, (st.toStp0.sqS h1).seq, RDs.mono st.toStp0 _ _ h2⟩
    | ref a =>
      obtain ⟨p, ep, hm⟩ := r
      cases ep
      have e' : (match s.heap a with | some (.lst ds) => some ds | _ => none) = some ds := e
      split at e'
      · rename_i xs ha
        cases e'
        have gd' : s1.heap a = some (.lst ds) := by
          have : gdOf (.ref a) s = some (a, .lst ds) := by
            show (match s.heap a with | some o => some (a, o) | none => none) = _
            rw [ha]
          rw [this] at gd
          exact gd
        obtain ⟨q', h1, _, us, h3, h4⟩ := R1.obj a _ gd'
        rw [st.mu a q hm] at h1; cases h1
        exact ⟨us, .of h3, h4⟩
      · cases e'
    | _ => cases e
  obtain ⟨us, n1, n2⟩ := now
  refine ⟨⟨us, n1, by rw [n2.length]; exact Nat.le_refl _⟩, fun i d ei => ?_⟩
  obtain ⟨v, hv, rv⟩ := n2.get ei
  refine ⟨⟨us, v, n1, hv⟩, fun x H2 y => ?_⟩
  obtain ⟨rfl, y⟩ := y
  have ev := y us n1
  rw [hv] at ev
  cases ev
  exact ⟨g1, .refl _ _, R1, rv⟩
theorem pi_lst' (ha : PX X W a ma) : PIX X W tg a (lstItM ma) := by
  refine PI.imp (pi_list ha) fun σ H Q h => (TX.bind (rel := RD X.K) h).imp fun v H1 ⟨g1, x, s1, env, R1, E1, r1, p1⟩ => ?_
  unfold lstIt at p1
  cases e : lstOf x s1 with
  | none => rw [e] at p1; exact p1.elim
  | some ds =>
    rw [e] at p1
    obtain ⟨q, vs, rfl, e2, e3⟩ := lst_ok R1 r1 e
    obtain ⟨h1, h2⟩ := itOk_list R1 r1 e
    exact ⟨q, rfl, h1, p1 g1 H1 _ (.refl _ _) R1 h2⟩
/-- a tuple -/
def tupIt (x : D) (s : S) : R Itm := match x with
  | .tup ds => .ok (ds, none) s
  | .ct ds => .ok (ds, none) s
  | _ => .bad
def tupItM (m : ME D) : ME Itm := fun env s => bd (m env s) tupIt
theorem pi_tup' (ha : PX X W a ma) : PIX X W tg a (tupItM ma) := by
  refine PI.imp (pi_tup ha) fun σ H Q h => (TX.bind (rel := RD X.K) h).imp fun v H1 ⟨g1, x, s1, env, R1, E1, r1, p1⟩ => ?_
  have fin : ∀ {ds : List D} {q : Addr} {vs : List V}, v = .ref q → SqT X.K H1 q vs → RDs X.K g1 H1 ds vs → Post X.K W g1 H1 σ (fun g H im J => ItOk X.K g H J im) (.ok (ds, none) s1) Q → ∃ a, v = .ref a ∧ (∃ xs, SqT X.K H1 a xs) ∧ Q (Itt X.K a) H1 := by
    intro ds q vs ev e2 e3 p1
    subst ev
    refine ⟨q, rfl, ⟨vs, e2⟩, p1 g1 H1 _ (.refl _ _) R1 ?_⟩
    intro g2 H2 s2 st R2 _
    have n1 := st.toStp0.sqT e2
    have n2 := RDs.mono st.toStp0 _ _ e3
    refine ⟨⟨vs, n1, by rw [n2.length]; exact Nat.le_refl _⟩, fun i d ei => ?_⟩
    obtain ⟨w, hv, rv⟩ := n2.get ei
    refine ⟨⟨vs, w, n1, hv⟩, fun x H3 y => ?_⟩
    obtain ⟨rfl, y⟩ := y
    have ew := y vs n1
    rw [hv] at ew
    cases ew
    exact ⟨g2, .refl _ _, R2, rv⟩
  cases x with
  | tup ds =>
    obtain ⟨q, vs, ev, e2, e3⟩ := r1
    exact fin ev (.of e2) e3 p1
  | ct ds =>
    obtain ⟨q, vs, ev, e2, e3⟩ := r1
    exact fin ev e2.tup e3 p1
  | _ => exact p1.elim
/-! ### for -/
open Classical in
noncomputable def forL (t : Tg) (gd : Option (Nat × Ob)) (b : MS) : List D → MS
  | [], env, s => if GdOk gd s then .ok (.nx, env) s else .bad
  | d :: ds, env, s => if GdOk gd s then (match asg t d s env with
    | none => .bad
    | some env1 => match b env1 s with
      | .ok (.nx, env2) s2 => forL t gd b ds env2 s2
      | .ok (.ct, env2) s2 => forL t gd b ds env2 s2
      | .ok (.bk, env2) s2 => .ok (.nx, env2) s2
      | r => r) else .bad
noncomputable def forM (t : Tg) (m : ME Itm) (b : MS) : MS := fun env s => bs (m env s) env fun im s1 => forL t im.2 b im.1 env s1
theorem ps_for' {iter : Expr} {body : List Stmt} {t : Tg} {m : ME Itm} {b : MS} (hp : PassesOwn (model X.prog X.w) X.A X.env X.xe) (hc : X.calm = true) (hi : PIX X W tg iter m) (hg : PGX X tg t) (hb : PSB X W body b)
    (hs : ∀ x, foldedSetIterable iter X.env x = pure x) : PSX X W (.For tg iter body [] pos) (forM t m b) := by
  refine PS.imp (ps_for hp hc hi hg hb hs) fun σ H D h => (TS'.bind (rel := fun g H im J => ItOk X.K g H J im) h).imp fun J H0 ⟨g0, im, s0, env0, R0, E0, it, p0⟩ => ?_
  refine ⟨fun i m σ H => m = im.1.length - i ∧ i ≤ im.1.length ∧ ∃ g s env, Stp g0 H0 g H ∧ Rel X.K g s H ∧ RE X.K g H env σ ∧ PostS X.K W g H (forL t im.2 b (im.1.drop i) env s) D,
    ⟨im.1.length, by simp, Nat.zero_le _, g0, s0, env0, .refl _ _, R0, E0, p0⟩, fun i m σ H h => ?_⟩
  obtain ⟨rfl, hi, g, s, env, st, R, E, p⟩ := h
  by_cases hlt : i < im.1.length
  · have hd : im.1.drop i = im.1[i] :: im.1.drop (i + 1) := List.drop_eq_getElem_cons hlt
    rw [hd] at p
    unfold forL at p
    by_cases hgd : GdOk im.2 s
    · rw [if_pos hgd] at p
      obtain ⟨_, hit⟩ := it g H s st R hgd
      obtain ⟨go, yld⟩ := hit i im.1[i] (List.getElem?_eq_getElem hlt)
      refine .inr ⟨go, fun σ' H' => ∃ m', m' < im.1.length - i ∧ m' = im.1.length - (i + 1) ∧ i + 1 ≤ im.1.length ∧ ∃ g s env, Stp g0 H0 g H' ∧ Rel X.K g s H' ∧ RE X.K g H' env σ' ∧ PostS X.K W g H' (forL t im.2 b (im.1.drop (i + 1)) env s) D,
        fun σ' H' h => h, fun x H2 y => ?_⟩
      obtain ⟨g2, st2, R2, r2⟩ := yld x H2 y
      cases ea : asg t im.1[i] s env with
      | none => rw [ea] at p; exact p.elim
      | some env1 =>
        simp only [ea] at p
        refine tg_ok R2 (E.mono st2.toStp0) r2 ea fun σ1 E1 _ => ⟨g2, s, env1, R2, E1, ?_⟩
        cases hbs : b env1 s with
        | ok fe s3 =>
          obtain ⟨f, env3⟩ := fe
          intro g3 H3 σ3 st3 R3 E3
          have stA := st2.trans st3
          simp only [hbs] at p
          cases f with
          | nx => exact ⟨_, by omega, rfl, hlt, g3, s3, env3, st.trans stA, R3, E3, PostS.later stA p⟩
          | ct => exact ⟨_, by omega, rfl, hlt, g3, s3, env3, st.trans stA, R3, E3, PostS.later stA p⟩
          | bk => exact p g3 H3 σ3 stA R3 E3
          | rt d => exact p g3 H3 σ3 stA R3 E3
          | ex c fs => exact p g3 H3 σ3 stA R3 E3
        | exc c fs s3 => simp only [hbs] at p; exact p
        | bad => simp only [hbs] at p; exact p
    · rw [if_neg hgd] at p; exact p.elim
  · have ei : i = im.1.length := by omega
    have hd : im.1.drop i = [] := by rw [ei]; exact List.drop_length
    rw [hd] at p
    unfold forL at p
    by_cases hgd : GdOk im.2 s
    · rw [if_pos hgd] at p
      obtain ⟨hst, _⟩ := it g H s st R hgd
      exact .inl ⟨by rw [ei]; exact hst, p g H σ (.refl _ _) R E⟩
    · rw [if_neg hgd] at p; exact p.elim
end
end Co
namespace Co
open PySem PySem.Spec PyProof.Rows L2
/-! ### behind a call: what only the callee made is forgotten -/
mutual
def below (n : Nat) : D → Prop
  | .ref a => a < n
  | .tup ds => belowL n ds
  | .ct ds => belowL n ds
  | .lv ds => belowL n ds
  | .sc ds => belowL n ds
  | .dv _ ds => belowL n ds
  | _ => True
def belowL (n : Nat) : List D → Prop
  | [] => True
  | d :: ds => below n d ∧ belowL n ds
end
def obBelow (n : Nat) : Ob → Prop
  | .lst ds => belowL n ds
  | .dK kvs => belowL n (kvs.map (·.2))
  | .dT kvs => belowL n (kvs.map (·.2))
  | .lk kvs => belowL n (kvs.map (·.2))
  | .lkT kvs => belowL n (kvs.map (·.2))
  | .ins _ fs => belowL n (fs.map (·.2))
def gcOk (n : Nat) (ds : List D) (s : S) : Prop := belowL n ds ∧ ∀ a o, a < n → s.heap a = some o → obBelow n o
def S.cut (s : S) (n : Nat) : S := ⟨n, fun a => if a < n then s.heap a else none⟩
open Classical in
noncomputable def gcS (n : Nat) (ds : List D) (s : S) : S := if gcOk n ds s then s.cut n else s
def Gh.cut (g : Gh) (n : Nat) : Gh := ⟨fun a => if a < n then g.mu a else none, g.z, g.pr⟩
section
variable {K : Frag} {g g' : Gh} {s s' : S} {H H' : Hp} {n : Nat}
mutual
theorem RD.cut : ∀ (d : D) (v : V), below n d → RD K g H d v → RD K (g.cut n) H d v
  | .non, _, _, h => h
  | .bl _, _, _, h => h
  | .int _, _, _, h => h
  | .str _, _, _, h => h
  | .tup ds, v, b, ⟨p, vs, e, q, r⟩ => ⟨p, vs, e, q, RDs.cut ds vs b r⟩
  | .ct ds, v, b, ⟨p, vs, e, q, r⟩ => ⟨p, vs, e, q, RDs.cut ds vs b r⟩
  | .lv ds, v, b, ⟨p, vs, e, z, q, r⟩ => ⟨p, vs, e, z, q, RDs.cut ds vs b r⟩
  | .sc ds, v, b, ⟨p, vs, e, q, r⟩ => ⟨p, vs, e, q, RDs.cut ds vs b r⟩
  | .dv ks ds, v, b, ⟨p, kvs, e, z, q, k, r⟩ => ⟨p, kvs, e, z, q, k, RDs.cut ds _ b r⟩
  | .ref a, v, b, ⟨p, e, q⟩ => ⟨p, e, (if_pos (show a < n from b)).trans q⟩
theorem RDs.cut : ∀ (ds : List D) (vs : List V), belowL n ds → RDs K g H ds vs → RDs K (g.cut n) H ds vs
  | [], _, _, h => h
  | d :: ds, vs, b, ⟨v, r, e, h1, h2⟩ => ⟨v, r, e, RD.cut d v b.1 h1, RDs.cut ds r b.2 h2⟩
end
theorem RO.cut {p : Addr} : ∀ {o : Ob}, obBelow n o → RO K g H p o → RO K (g.cut n) H p o
  | .lst ds, b, ⟨vs, h1, h2⟩ => ⟨vs, h1, RDs.cut _ _ b h2⟩
  | .dK kvs, b, ⟨ws, h1, h2, h3⟩ => ⟨ws, h1, h2, RDs.cut _ _ b h3⟩
  | .dT kvs, b, ⟨ws, h1, h2, h3⟩ => ⟨ws, h1, h2, RDs.cut _ _ b h3⟩
  | .lk kvs, b, ⟨o, ws, h1, h2, h3⟩ => ⟨o, ws, h1, h2, RDs.cut _ _ b h3⟩
  | .lkT kvs, b, ⟨o, ws, h1, h2, h3⟩ => ⟨o, ws, h1, h2, RDs.cut _ _ b h3⟩
  | .ins c fs, b, ⟨dx, ws, h1, h2, h3⟩ => ⟨dx, ws, h1, h2, RDs.cut _ _ b h3⟩
theorem Stp.cut (st : Stp g H g' H') (hd : ∀ a p, g.mu a = some p → a < n) : Stp g H (g'.cut n) H' :=
  ⟨⟨fun a p e => (if_pos (hd a p e)).trans (st.mu a p e), st.z, st.tup, st.frz⟩, st.fz, st.pr⟩
theorem Rel.cut (R : Rel K g s H) (hn : ∀ a o, a < n → s.heap a = some o → obBelow n o) : Rel K (g.cut n) (s.cut n) H := by
  have out : ∀ a o, (s.cut n).heap a = some o → a < n ∧ s.heap a = some o := fun a o e => by
    by_cases h : a < n
    · exact ⟨h, (if_pos h).symm.trans e⟩
    · have : (none : Option Ob) = some o := (if_neg h).symm.trans e
      cases this
  have outm : ∀ a p, (g.cut n).mu a = some p → a < n ∧ g.mu a = some p := fun a p e => by
    by_cases h : a < n
    · exact ⟨h, (if_pos h).symm.trans e⟩
    · have : (none : Option Addr) = some p := (if_neg h).symm.trans e
      cases this
  refine ⟨fun a p e => (outm a p e).1, fun a o e => ?_, fun a b p oa ob ea eb h1 h2 => R.inj a b p oa ob (out a oa ea).2 (out b ob eb).2 (outm a p h1).2 (outm b p h2).2, R.zz, R.pp, R.tt⟩
  obtain ⟨ha, e'⟩ := out a o e
  obtain ⟨q, h1, h2, h3⟩ := R.obj a o e'
  exact ⟨q, (if_pos ha).trans h1, h2, RO.cut (hn a o ha e') h3⟩
/-- what is known behind the callee is known behind the call -/
theorem gc_ok {ds : List D} {vs : List V} (st : Stp g H g' H') (R' : Rel K g' s' H') (r : RDs K g' H' ds vs) (hd : ∀ a p, g.mu a = some p → a < n) :
    ∃ g'', Stp g H g'' H' ∧ Rel K g'' (gcS n ds s') H' ∧ RDs K g'' H' ds vs := by
  unfold gcS
  by_cases h : gcOk n ds s'
  · rw [if_pos h]
    exact ⟨g'.cut n, st.cut hd, R'.cut h.2, RDs.cut _ _ h.1 r⟩
  · rw [if_neg h]
    exact ⟨g', st, R', r⟩
end
/-- a def, by its body's meaning -/
noncomputable def callB (n N : Nat) (b : MS) : List D → S → R D := fun ds s => if ds.length = n then (match b (ds.map some ++ List.replicate (N - ds.length) none) s with
    | .ok (.nx, _) s' => .ok .non (gcS s.next [.non] s')
    | .ok (.rt d, _) s' => .ok d (gcS s.next [d] s')
    | .ok (.ex c fs, _) s' => .exc c fs (gcS s.next (fs.map (·.2)) s')
    | _ => .bad) else .bad
/-- the promise of a def whose meaning is m -/
def spF (K : Frag) (n : Nat) (m : List D → S → R D) : Sp := fun vs H Q E => vs.length = n ∧ ∃ g s ds, Rel K g s H ∧ RDs K g H ds vs ∧ Post K (fun cls d _ H' => E cls d H') g H [] (RD K) (m ds s) Q
theorem re_start {K : Frag} {g : Gh} {H : Hp} {N : List Str} {ds : List D} {vs : List V} (r : RDs K g H ds vs) : RE K g H (ds.map some ++ List.replicate (N.length - ds.length) none) (L2.start N vs) := by
  unfold L2.start
  rw [r.length]
  refine ⟨by simp [r.length], fun i d e => ?_⟩
  by_cases hi : i < ds.length
  · rw [List.getElem?_append_left (by simpa using hi), List.getElem?_map] at e
    cases hd : ds[i]? with
    | none => rw [hd] at e; cases e
    | some d' =>
      rw [hd] at e
      have e' : d' = d := by simpa using e
      subst e'
      obtain ⟨v, h1, h2⟩ := r.get hd
      refine ⟨v, ?_, h2⟩
      rw [List.getElem?_append_left (by rw [List.length_map, ← r.length]; exact hi), List.getElem?_map, h1]
      rfl
  · rw [List.getElem?_append_right (by simpa using hi), List.getElem?_replicate] at e
    split at e <;> cases e
/-- a def's promise, where no repr is under way (FnOk of HandS.Call with that) -/
structure FnG (P : Program) (w : World) (K : PySem.W.Frag) (mg : Str → Option Value) (base : Heap) (k : Nat) (f : Addr) (fd : FuncData) (ps : List Str) (sp : Sp) : Prop where
  len : ∀ vs H Q E, sp vs H Q E → vs.length = ps.length
  run : ∀ (A : Around) (outer : List PySem.Env) (s : Shared) (H : Hp) (args : Args) (us : List Value) (vs : List V) (Q : VK) (E : XK), Room k A → A.guards = some [] → Env0 P w K mg base A outer s H → BindsTo s fd args (ps.zip us) → Vals vs us → sp vs H Q E →
    codeAny (model P w) A (.call (.ref f) args) (CR (L2.CX P w) outer P w H s Q E) s
theorem FnG.mono {P : Program} {w : World} {K : PySem.W.Frag} {mg : Str → Option Value} {base : Heap} {j k : Nat} {f : Addr} {fd : FuncData} {ps : List Str} {sp : Sp} (F : FnG P w K mg base j f fd ps sp) (h : j ≤ k) :
    FnG P w K mg base k f fd ps sp := ⟨F.len, fun A outer s H args us vs Q E hr => F.run A outer s H args us vs Q E (hr.mono h)⟩
/-- by a body (the proof follows fn_of of HandS.Call) -/
theorem fn_ofG {P : Program} {w : World} {K : PySem.W.Frag} {mg : Str → Option Value} {base : Heap} {k : Nat} {f : Addr} {name qual : Str} {params : Arguments} {body : List Stmt} {scope : Scope} {dV kV doc pm cdv ct oc : Value} {an od : Option Addr}
    {osl : Array (Option Value)} {N ps : List Str} {sp : Sp} (lk : K.lookup f = some ⟨oc, od, .func (PySem.W.fnOf name qual params body scope dV kV doc pm an cdv ct), osl⟩) (hcd : PySem.W.codeIn K cdv qual = true) (S : FnScope N ps scope)
    (len : ∀ vs H Q E, sp vs H Q E → vs.length = ps.length)
    (hbody : ∀ (A : Around) (outer : List PySem.Env) (s : Shared) (H : Hp) (vs : List V) (Q : VK) (E : XK), Room k (A.deeper (envOfC qual scope s.heap.objs.size f cdv)) → A.guards = some [] → sp vs H Q E →
      ∃ t, PSs (cxOf (L2.CX P w) P w K mg base N qual scope f cdv A outer s H E) body t ∧ t { nx := fun _ H' => Q .non H', rt := Q } (start N vs) H) :
    FnG P w K mg base (k + 1) f (PySem.W.fnOf name qual params body scope dV kV doc pm an cdv ct) ps sp := by
  refine ⟨len, fun A outer s H args us vs Q E hr hgd e0 hb r hsp => ?_⟩
  have hl := len _ _ _ _ hsp
  have KX : K.In s.heap := e0.mod.kin.keeps fun b o e => (e0.bs b o e).1
  have lim : s.heap.NoLimit := e0.mod.nolimit.keeps fun b o e => (e0.bs b o e).1
  have hkind : ∀ y ∈ ps.zip us, scope.names.lookup y.1 = some .local ∨ (scope.names.lookup y.1 = some .cell ∧ ((cellsFrom (s.heap.objs.size + 1) scope.names []).lookup y.1).isSome = true) := fun ⟨n, v⟩ hy => by
    rcases S.par n (List.of_mem_zip hy).1 with q | q
    · exact .inl q
    · exact .inr ⟨q, PySem.W.cellsFrom_some _ _ _ (.inl q)⟩
  refine codeAny_call_function hr.depth (KX _ _ lk) rfl S.co S.gen rfl (PySem.W.codeRec_of KX hcd) (hb _ _ _ _ ?_)
  refine wpAny_newFunctionEnv_cells S.kind hkind fun env he s1 x => ?_
  subst he
  refine ⟨lim.keeps x.toInCall.keep, codeAny_func ?_⟩
  obtain ⟨t, ht, hq⟩ := hbody A outer s H vs Q E (hr.deeper _) hgd hsp
  have I : Inv (cxOf (L2.CX P w) P w K mg base N qual scope f cdv A outer s H E) [] (start N vs) H s1 := inv_start S hr.hd e0 hl r x
  refine wpAny_mono (ht.run [] s1 (start N vs) H _ I hq) (fun fl s' hs => ?_) fun e s' hs => hs
  have fin : ∀ {σ' : L2.St} {H' : Hp} {v : V} {u : Value}, Inv (cxOf (L2.CX P w) P w K mg base N qual scope f cdv A outer s H E) [] σ' H' s' → RelV v u → Q v H' → CE outer P w H s Q u s' :=
    fun {σ' H' v u} J rv q => ⟨v, H', J.os, J.bare, J.base, J.hok, rv, q⟩
  cases fl with
  | ret u =>
    obtain ⟨v, σ', H', J, rv, q⟩ := hs
    exact fin J rv q
  | next =>
    obtain ⟨σ', H', J, q⟩ := hs
    exact fin (v := V.non) (u := Value.none) J rfl q
  | brk =>
    obtain ⟨_, _, _, q⟩ := hs
    exact False.elim q
  | cont =>
    obtain ⟨_, _, _, q⟩ := hs
    exact False.elim q
theorem run_fnG {X : Cx} {E : L2.St → XK} {k : Nat} {f : Addr} {fd : FuncData} {ps : List Str} {sp : Sp} {pins : List (Addr × Obj)} {σ : L2.St} {H : Hp} {s : Shared} {Q : VK} {us : List Value} {vs : List V} (F : FnG X.prog X.w X.K X.mg X.base k f fd ps sp) (hr : Room k X.A) (hgd : X.A.guards = some []) (hb : Binds X.K fd ps [])
    (hx : PassesAt (L2.CX X.prog X.w) X σ (E σ)) (I : Inv X pins σ H s) (r : Vals vs us) (h : sp vs H Q (E σ)) : wpAny (model X.prog X.w) X.A (call (.ref f) us) (EP X pins σ Q) X.xe s := by
  have hl : us.length = ps.length := by rw [← r.length]; exact F.len _ _ _ _ h
  have b := hb s us I.kIn (by rw [List.append_nil]; exact hl)
  rw [List.append_nil] at b
  refine wpAny_call (codeAny_mono (F.run X.A X.stack s H ⟨us, []⟩ us vs Q (E σ) hr hgd I.env0 b r h) fun r s' hq => ?_)
  cases r with
  | error e => exact hx pins H s e s' I hq
  | ok fl =>
    cases fl with
    | ret u => exact I.after hq
    | next => exact False.elim hq
    | brk => exact False.elim hq
    | cont => exact False.elim hq
theorem pe_callG {X : Cx} {E : L2.St → XK} {k : Nat} {f : Addr} {fd : FuncData} {ps : List Str} {sp : Sp} {x : Str} {p pos : Pos} {e : Expr} {es : List Expr} {t : TA} (F : FnG X.prog X.w X.K X.mg X.base k f fd ps sp) (hr : Room k X.A) (hgd : X.A.guards = some []) (hg : Gl X x) (hm : X.mg x = some (.ref f)) (hk : PySem.W.keepIn X.K (.ref f) = true) (hb : Binds X.K fd ps [])
    (hx : ∀ σ, PassesAt (L2.CX X.prog X.w) X σ (E σ)) (ha : PA X (e :: es) t) (hdb : (x == ("__debug__" : Str)) = false) (he : starEach (e :: es) X.env = (false, eval e X.env) :: starEach es X.env) (hpl : (backTo pos (starEach es X.env)).any (·.1) = false) :
    PE X (.Call (.Name x p) (e :: es) [] pos) (tCallS sp E t) := by
  refine ⟨fun pins s σ H Q I h => ?_⟩
  refine wpAny_Call_Name_kw (ld_glob I hg hm ?_ hdb)
  refine PySem.W.callWith_K (h₀ := X.base) I.ok.mod.kin hk (thn (ha.run pos pins s σ H _ I h) fun us s1 ⟨vs, H1, I1, r, q⟩ => ⟨I1.kIn, ?_⟩) he hpl
  exact run_fnG F hr hgd hb (hx σ) I1 r q
theorem guards_make {A : Around} {C : Addr} {us : List Value} {kw : List (Str × Value)} (h : A.guards = some []) : (A.under (.builtin "type.__call__" ⟨.ref C :: us, kw⟩)).guards = some [] := by
  have e : (Code.builtin "type.__call__" ⟨.ref C :: us, kw⟩).isGuard = false := by first | rfl | decide
  simp [Around.under, h, Code.guards, e, pushGuards]
section
variable {X : Cx} {W : WX} {a e o : Expr} {es : List Expr} {pos p apos : Pos} {ma mo : ME D} {mes : ME (List D)} {x : Str} {k : Nat} {f : Addr} {fd : FuncData} {ps : List Str} {m : List D → S → R D}
theorem sp_of {g : Gh} {s : S} {H : Hp} {σ : L2.St} {ds : List D} {vs : List V} {Q : VK} {n : Nat} (hn : ∀ ds s, ds.length ≠ n → m ds s = .bad) (R : Rel X.K g s H) (r : RDs X.K g H ds vs) (h : Post X.K W g H σ (RD X.K) (m ds s) Q) : spF X.K n m vs H Q (WE W σ) := by
  by_cases hl : ds.length = n
  · refine ⟨by rw [← r.length]; exact hl, g, s, ds, R, r, ?_⟩
    cases hm : m ds s with
    | ok d s' => rw [hm] at h; exact h
    | exc c fs s' => rw [hm] at h; exact h
    | bad => rw [hm] at h; exact h.elim
  · rw [hn ds s hl] at h; exact h.elim
theorem px_call (hn : ∀ ds s, ds.length ≠ ps.length → m ds s = .bad) (tk : Takes X W) (F : FnG X.prog X.w X.K X.mg X.base k f fd ps (spF X.K ps.length m)) (hr : Room k X.A) (hgd : X.A.guards = some []) (hg : Gl X x) (hm : X.mg x = some (.ref f)) (hk : PySem.W.keepIn X.K (.ref f) = true)
    (hb : Binds X.K fd ps []) (hdb : (x == ("__debug__" : Str)) = false) (he : starEach (e :: es) X.env = (false, eval e X.env) :: starEach es X.env) (hpl : (backTo pos (starEach es X.env)).any (·.1) = false) (ha : PL X W (e :: es) mes) :
    PX X W (.Call (.Name x p) (e :: es) [] pos) (argM m mes) :=
  PE.imp (pe_callG F hr hgd hg hm hk hb (fun σ => passAt tk σ) ha hdb he hpl) fun σ H Q h => (TX.bind (rel := RDs X.K) h).imp fun vs H1 ⟨g1, ds, s1, env, R1, E1, r1, p1⟩ => sp_of hn R1 r1 p1
theorem px_call0 (hn : ∀ ds s, ds.length ≠ ps.length → m ds s = .bad) (tk : Takes X W) (F : FnG X.prog X.w X.K X.mg X.base k f fd ps (spF X.K ps.length m)) (hr : Room k X.A) (hgd : X.A.guards = some []) (hg : Gl X x) (hm : X.mg x = some (.ref f)) (hk : PySem.W.keepIn X.K (.ref f) = true)
    (hb : Binds X.K fd ps []) (hdb : (x == ("__debug__" : Str)) = false) : PX X W (.Call (.Name x p) [] [] pos) (argM m nilM) := by
  refine ⟨fun pins s σ H Q I h => ?_⟩
  obtain ⟨g, t, env, R, E, q⟩ := h
  have q : Post X.K W g H σ (RD X.K) (m [] t) Q := q
  refine wpAny_Call_Name_kw (ld_glob I hg hm ?_ hdb)
  exact PySem.W.callWith_K0 I.kIn hk (run_fnG (us := []) (E := WE W) F hr hgd hb (passAt tk σ) I .nil (sp_of hn R .nil q))
/-- a method's name is no field -/
def noField (mn : Str) (fs : List (Str × D)) : Bool := !(fs.any fun p => p.1 == mn)
theorem lookup_none_of {α β : Type} {mn : Str} : ∀ {fs : List (Str × α)} {ws : List (Str × β)}, ws.map (·.1) = fs.map (·.1) → (fs.any fun p => p.1 == mn) = false → ws.lookup mn = none
  | [], [], _, _ => rfl
  | [], _ :: _, e, _ => by simp at e
  | _ :: _, [], e, _ => by simp at e
  | (a, x) :: fs, (b, y) :: ws, e, h => by
    simp only [List.map_cons, List.cons.injEq] at e
    obtain ⟨e1, e2⟩ := e
    subst e1
    simp only [List.any_cons, Bool.or_eq_false_iff] at h
    rw [List.lookup_cons]
    have : (mn == b) = false := by
      rw [beq_eq_false_iff_ne] at *
      exact fun z => h.1 z.symm
    rw [this]
    exact lookup_none_of e2 h.2
/-- the instance of the class c whose method mn is called -/
def recvD (c mn : Str) (x : D) (s : S) : Option Nat := match x with
  | .ref a => match s.heap a with
    | some (.ins c' fs) => if c' = c ∧ noField mn fs = true then some a else none
    | _ => none
  | _ => none
def methN (c mn : Str) (m : List D → S → R D) (mo : ME D) (mes : ME (List D)) : ME D := fun env s => bd (mo env s) fun x s1 => match recvD c mn x s1 with
  | some a => bd (mes env s1) fun ds s2 => m (.ref a :: ds) s2
  | none => .bad
theorem recv_ok {K : Frag} {cn mn : Str} {g1 : Gh} {s1 : S} {H1 : Hp} {x : D} {v : V} {a : Nat} (R1 : Rel K g1 s1 H1) (r1 : RD K g1 H1 x v) (e : recvD cn mn x s1 = some a) :
    ∃ q dx ws, v = .ref q ∧ g1.mu a = some q ∧ H1 q = some (.ins (He.ga K cn) dx ws) ∧ ws.lookup mn = none := by
  cases x with
  | ref b =>
    have e' : (match s1.heap b with
      | some (.ins c' fs) => if c' = cn ∧ noField mn fs = true then some b else none
      | _ => none) = some a := e
    split at e'
    · rename_i c' fs ha
      by_cases hc : c' = cn ∧ noField mn fs = true
      · rw [if_pos hc] at e'
        have eb : b = a := Option.some.inj e'
        subst eb
        obtain ⟨rfl, hf⟩ := hc
        obtain ⟨q, rfl, hm⟩ := r1
        obtain ⟨q', h1, _, dx, ws, h3, h4, h5⟩ := R1.obj _ _ ha
        rw [hm] at h1; cases h1
        refine ⟨q, dx, ws, rfl, hm, h3, lookup_none_of h4 ?_⟩
        unfold noField at hf
        cases hq : (fs.any fun p => p.1 == mn) with
        | false => rfl
        | true => rw [hq] at hf; cases hf
      · rw [if_neg hc] at e'; cases e'
    · cases e'
  | _ => cases e
theorem px_meth {cn mn : Str} {pl : Sem Bool} (hn : ∀ ds s, ds.length ≠ ps.length → m ds s = .bad) (tk : Takes X W) (cl : Cls X.K (He.ga X.K cn)) (hme : Meth X.K (He.ga X.K cn) mn f) (F : FnG X.prog X.w X.K X.mg X.base k f fd ps (spF X.K ps.length m)) (hr : Room k X.A) (hgd : X.A.guards = some []) (hb : Binds X.K fd ps [])
    (hst : starEach (e :: es) X.env = (false, eval e X.env) :: starEach es X.env) (hpl : (backTo pos (starEach es X.env)).any (·.1) = false)
    (ht : eval (.Call (.Attribute o mn apos) (e :: es) [] pos) X.env = (do
      let ov ← eval o X.env
      standAt apos.atName
      let (f, first) ← holding [ov] (getMethod ov mn pl)
      callWith pos f first (backTo pos (starEach (e :: es) X.env)) (backToKw pos (keywordEach [] X.env)))) (ho : PX X W o mo) (ha : PL X W (e :: es) mes) :
    PX X W (.Call (.Attribute o mn apos) (e :: es) [] pos) (methN cn mn m mo mes) := by
  refine ⟨fun pins s σ H Q I h => ?_⟩
  refine PySem.W.methodCall_KW (pl := pl) (thn (ho.run pins s σ H _ I (TX.bind (rel := RD X.K) h)) fun u s1 ⟨v, H1, I1, rx, g1, x, t1, env, R1, E1, r1, p1⟩ => ?_) ht
  cases er : recvD cn mn x t1 with
  | none => simp only [er] at p1; exact p1.elim
  | some b =>
  simp only [er] at p1
  obtain ⟨q, dx, ws, rfl, hm, h3, hl⟩ := recv_ok R1 r1 er
  obtain rfl : u = Value.ref q := rx
  refine getmeth_ok I1 h3 cl hme hl ?_
  refine PySem.W.callWith_K (first := [.ref q]) (h₀ := X.base) I.ok.mod.kin hme.kp (thn (ha.run pos pins s1 σ H1 _ I1 (TX.mk R1 E1 (Post.bind (rel := RDs X.K) p1))) fun us s2 ⟨vs, H2, I2, r, g2, ds, t2, st2, R2, r2, _, p3⟩ => ⟨I2.kIn, ?_⟩) hst hpl
  exact run_fnG (us := .ref q :: us) (vs := .ref q :: vs) (E := WE W) F hr hgd hb (passAt tk σ) I2 (.cons rfl r) (sp_of (ds := .ref b :: ds) hn R2 (.cons (d := .ref b) ⟨q, rfl, st2.mu b q hm⟩ r2) p3)
theorem px_meth0 {cn mn : Str} {pl : Sem Bool} (hn : ∀ ds s, ds.length ≠ ps.length → m ds s = .bad) (tk : Takes X W) (cl : Cls X.K (He.ga X.K cn)) (hme : Meth X.K (He.ga X.K cn) mn f) (F : FnG X.prog X.w X.K X.mg X.base k f fd ps (spF X.K ps.length m)) (hr : Room k X.A) (hgd : X.A.guards = some []) (hb : Binds X.K fd ps [])
    (ht : eval (.Call (.Attribute o mn apos) [] [] pos) X.env = (do
      let ov ← eval o X.env
      standAt apos.atName
      let (f, first) ← holding [ov] (getMethod ov mn pl)
      callWith pos f first (backTo pos (starEach [] X.env)) (backToKw pos (keywordEach [] X.env)))) (ho : PX X W o mo) :
    PX X W (.Call (.Attribute o mn apos) [] [] pos) (methN cn mn m mo nilM) := by
  refine ⟨fun pins s σ H Q I h => ?_⟩
  refine PySem.W.methodCall_KW (pl := pl) (thn (ho.run pins s σ H _ I (TX.bind (rel := RD X.K) h)) fun u s1 ⟨v, H1, I1, rx, g1, x, t1, env, R1, E1, r1, p1⟩ => ?_) ht
  cases er : recvD cn mn x t1 with
  | none => simp only [er] at p1; exact p1.elim
  | some b =>
  simp only [er] at p1
  obtain ⟨q, dx, ws, rfl, hm, h3, hl⟩ := recv_ok R1 r1 er
  obtain rfl : u = Value.ref q := rx
  refine getmeth_ok I1 h3 cl hme hl ?_
  have p3 : Post X.K W g1 H1 σ (RD X.K) (m [.ref b] t1) Q := p1
  exact PySem.W.callWith_K0 (first := [.ref q]) I1.kIn hme.kp (run_fnG (us := [.ref q]) (vs := [.ref q]) (E := WE W) F hr hgd hb (passAt tk σ) I1 (.cons rfl .nil) (sp_of (ds := [.ref b]) hn R1 (.cons (d := .ref b) ⟨q, rfl, hm⟩ .nil) p3))
/-- C(..) -/
def mkM (c : Str) (m : List D → S → R D) (mes : ME (List D)) : ME D := fun env s => bd (mes env s) fun ds s1 => bd (m (.ref s1.next :: ds) (s1.alloc (.ins c []))) fun r s2 => match r with
  | .non => .ok (.ref s1.next) s2
  | _ => .bad
theorem run_makeS {C : Addr} {pins : List (Addr × Obj)} {σ : L2.St} {H : Hp} {s : Shared} {Q : VK} {us : List Value} {vs : List V} {sp : Sp} (M : Mk X.K C f) (F : FnG X.prog X.w X.K X.mg X.base k f fd ps sp) (hr : Room (k + 1) X.A) (hgd : X.A.guards = some []) (hb : Binds X.K fd ps [])
    (tk : Takes X W) (I : Inv X pins σ H s) (r : Vals vs us)
    (h : ∀ x dx, H x = none → H dx = none → dx ≠ x → sp (.ref x :: vs) (upd (upd H dx (.own x)) x (.ins C dx [])) (fun v H2 => v = .non ∧ Q (.ref x) H2) (WE W σ)) :
    wpAny (model X.prog X.w) X.A (call (.ref C) us) (EP X pins σ Q) X.xe s := by
  have hq := h (s.heap.objs.size + 1) s.heap.objs.size (I.hok.fresh (Nat.le_succ _)) (I.hok.fresh (Nat.le_refl _)) (Nat.ne_of_lt (Nat.lt_succ_self _))
  have I2 := Inv.made (C := C) I
  have r2 : Vals (V.ref (s.heap.objs.size + 1) :: vs) (Value.ref (s.heap.objs.size + 1) :: us) := .cons rfl r
  have hl : (Value.ref (s.heap.objs.size + 1) :: us).length = ps.length := by
    have e := r2.length
    rw [F.len _ _ _ _ hq] at e
    exact e.symm
  have b := hb _ (Value.ref (s.heap.objs.size + 1) :: us) I2.kIn (by rw [List.append_nil]; exact hl)
  rw [List.append_nil] at b
  refine wpAny_call (make_map (f := f) I.kIn M.makes M.init (beq_iff_eq.mp M.fn) (codeAny_mono (F.run _ X.stack _ _ ⟨Value.ref (s.heap.objs.size + 1) :: us, []⟩ (Value.ref (s.heap.objs.size + 1) :: us) _ _ (WE W σ) (hr.make C us []) (guards_make hgd)
    (I2.env0.make C us []) b r2 hq) fun r s' hq' => ?_))
  cases r with
  | error e => exact passAt tk σ pins _ _ e s' I2 hq'
  | ok fl =>
    cases fl with
    | ret u =>
      obtain ⟨v, H', I3, rv, ev, q3⟩ := I2.after hq'
      subst ev
      exact ⟨rv, ⟨V.ref (s.heap.objs.size + 1), H', I3, rfl, q3⟩⟩
    | next => exact False.elim hq'
    | brk => exact False.elim hq'
    | cont => exact False.elim hq'
theorem mk_sp {cn : Str} {σ : L2.St} {g1 : Gh} {s1 : S} {H1 : Hp} {ds : List D} {vs : List V} {Q : VK} (hn : ∀ ds s, ds.length ≠ ps.length → m ds s = .bad) (R1 : Rel X.K g1 s1 H1) (r1 : RDs X.K g1 H1 ds vs)
    (p1 : Post X.K W g1 H1 σ (RD X.K) (bd (m (.ref s1.next :: ds) (s1.alloc (.ins cn []))) fun r s2 => match r with
      | .non => .ok (.ref s1.next) s2
      | _ => .bad) Q) (x dx : Addr) (hx : H1 x = none) (hdx : H1 dx = none) (ne : dx ≠ x) :
    spF X.K ps.length m (.ref x :: vs) (upd (upd H1 dx (.own x)) x (.ins (He.ga X.K cn) dx [])) (fun v H2 => v = .non ∧ Q (.ref x) H2) (WE W σ) := by
  have st1 := stp_new (o := .own x) R1 hdx
  have R2 := R1.new (o := .own x) hdx
  have hx2 : upd H1 dx (.own x) x = none := by rw [upd_ne (Ne.symm ne)]; exact hx
  have st2 := stp_add (o := .ins (He.ga X.K cn) dx []) R2 hx2
  have R3 := R2.add (o := .ins (He.ga X.K cn) dx []) (ob := .ins cn []) hx2 ⟨dx, [], upd_same, rfl, rfl⟩
  have st := st1.trans st2
  refine sp_of (σ := σ) (ds := .ref s1.next :: ds) hn R3 (.cons (d := .ref s1.next) ⟨x, rfl, if_pos rfl⟩ (RDs.mono st.toStp0 _ _ r1)) ((Post.bind (rel := RD X.K) (Post.later st p1)).imp fun v H2 ⟨g2, d, s2, st3, R4, r4, _, p2⟩ => ?_)
  cases d with
  | non =>
    cases r4
    exact ⟨rfl, p2 g2 H2 _ (.refl _ _) R4 ⟨x, rfl, st3.mu _ _ (if_pos rfl)⟩⟩
  | _ => exact p2.elim
theorem px_mk {cn : Str} (hn : ∀ ds s, ds.length ≠ ps.length → m ds s = .bad) (tk : Takes X W) (M : Mk X.K (He.ga X.K cn) f) (F : FnG X.prog X.w X.K X.mg X.base k f fd ps (spF X.K ps.length m)) (hr : Room (k + 1) X.A) (hgd : X.A.guards = some []) (hg : Gl X x) (hm : X.mg x = some (.ref (He.ga X.K cn)))
    (hb : Binds X.K fd ps []) (hdb : (x == ("__debug__" : Str)) = false) (he : starEach (e :: es) X.env = (false, eval e X.env) :: starEach es X.env) (hpl : (backTo pos (starEach es X.env)).any (·.1) = false) (ha : PL X W (e :: es) mes) :
    PX X W (.Call (.Name x p) (e :: es) [] pos) (mkM cn m mes) := by
  refine ⟨fun pins s σ H Q I h => ?_⟩
  refine wpAny_Call_Name_kw (ld_glob I hg hm ?_ hdb)
  refine PySem.W.callWith_K (h₀ := X.base) I.ok.mod.kin M.kp (thn (ha.run pos pins s σ H _ I (TX.bind (rel := RDs X.K) h)) fun us s1 ⟨vs, H1, I1, r, g1, ds, t1, env, R1, E1, r1, p1⟩ => ⟨I1.kIn, ?_⟩) he hpl
  exact run_makeS M F hr hgd hb tk I1 r (mk_sp hn R1 r1 p1)
theorem px_mk0 {cn : Str} (hn : ∀ ds s, ds.length ≠ ps.length → m ds s = .bad) (tk : Takes X W) (M : Mk X.K (He.ga X.K cn) f) (F : FnG X.prog X.w X.K X.mg X.base k f fd ps (spF X.K ps.length m)) (hr : Room (k + 1) X.A) (hgd : X.A.guards = some []) (hg : Gl X x) (hm : X.mg x = some (.ref (He.ga X.K cn)))
    (hb : Binds X.K fd ps []) (hdb : (x == ("__debug__" : Str)) = false) : PX X W (.Call (.Name x p) [] [] pos) (mkM cn m nilM) := by
  refine ⟨fun pins s σ H Q I h => ?_⟩
  obtain ⟨g, t, env, R, E, q⟩ := h
  refine wpAny_Call_Name_kw (ld_glob I hg hm ?_ hdb)
  exact PySem.W.callWith_K0 I.kIn M.kp (run_makeS (us := []) M F hr hgd hb tk I .nil (mk_sp hn R .nil q))
end
end Co
namespace Co
open PySem PySem.Spec PyProof.Rows L2
def wipeE (env : Env) : List Nat → Env
  | [] => env
  | v :: vs => (wipeE env vs).set v none
theorem RE.wipe {K : Frag} {g : Gh} {H : Hp} {env : Env} {σ : L2.St} (h : RE K g H env σ) : ∀ vs, RE K g H (wipeE env vs) (wipe σ vs)
  | [] => h
  | v :: vs => RE.unset (RE.wipe h vs) v
theorem wipe_at {σ : L2.St} {j : Nat} : ∀ {vs : List Nat}, (wipe σ vs)[j]? = if j ∈ vs ∧ j < σ.length then some none else σ[j]?
  | [] => by simp [wipe]
  | v :: vs => by
    unfold wipe
    by_cases hj : v = j
    · subst hj
      by_cases hl : v < σ.length
      · rw [List.getElem?_set_self (by rw [wipe_length]; exact hl), if_pos ⟨List.mem_cons_self, hl⟩]
      · rw [if_neg fun z => hl z.2, List.getElem?_eq_none (by rw [List.length_set, wipe_length]; omega), List.getElem?_eq_none (by omega)]
    · rw [List.getElem?_set_ne hj, wipe_at]
      have : (j ∈ v :: vs) ↔ j ∈ vs := by
        rw [List.mem_cons]
        exact ⟨fun z => z.elim (fun e => absurd e.symm hj) id, .inr⟩
      simp only [this]
theorem wipe_but {σ σ' : L2.St} {is vs : List Nat} (b : But is (wipe σ vs) σ') (hs : ∀ i ∈ is, i ∈ vs) : wipe σ' vs = wipe σ vs := by
  apply List.ext_getElem?
  intro j
  have hl : σ'.length = σ.length := by rw [b.len, wipe_length]
  rw [wipe_at, wipe_at, hl]
  by_cases hj : j ∈ vs ∧ j < σ.length
  · rw [if_pos hj, if_pos hj]
  · rw [if_neg hj, if_neg hj]
    by_cases hl' : j < σ.length
    · rw [b.same j fun z => hj ⟨hs j z, hl'⟩, wipe_at, if_neg hj]
    · rw [List.getElem?_eq_none (by omega), List.getElem?_eq_none (by omega)]
theorem bd_assoc {α β γ : Type} (r : R α) (f : α → S → R β) (h : β → S → R γ) : bd (bd r f) h = bd r fun a s => bd (f a s) h := by
  cases r <;> rfl
/-! ### our own object comes into the abstract heap, or is frozen -/
section
variable {K : Frag} {W : WX} {g : Gh} {s : S} {H : Hp} {σ : L2.St} {p : Addr}
theorem stp_add0 (R : Rel K g s H) : Stp g H (g.add s.next p) H :=
  ⟨⟨fun a q e => (if_neg (Nat.ne_of_lt (R.dom a q e))).trans e, fun _ h => ⟨h, rfl⟩, fun _ _ e => e, fun _ _ _ _ e => e⟩, fun _ _ _ e => e, fun _ h => ⟨h, rfl⟩⟩
theorem Rel.addOwn {ob : Ob} (R : Rel K g s H) (o : Own g s H p) (ho : RO K (g.add s.next p) H p ob) : Rel K (g.add s.next p) (s.alloc ob) H := by
  have old : ∀ a q, g.mu a = some q → (g.add s.next p).mu a = some q := fun a q e => (if_neg (Nat.ne_of_lt (R.dom a q e))).trans e
  have new : (g.add s.next p).mu s.next = some p := if_pos rfl
  refine ⟨fun a q e => ?_, fun a oa e => ?_, fun a b q oa ob' ea eb h1 h2 => ?_, R.zz, R.pp, R.tt⟩
  · by_cases h : a = s.next
    · subst h; exact Nat.lt_succ_self _
    · exact Nat.lt_succ_of_lt (R.dom a q ((if_neg h).symm.trans e))
  · by_cases h : a = s.next
    · subst h
      have e' : ob = oa := Option.some.inj ((if_pos rfl).symm.trans e)
      subst e'
      exact ⟨p, new, ⟨o.nz, o.np⟩, ho⟩
    · have e' : s.heap a = some oa := (if_neg h).symm.trans e
      obtain ⟨q, h1, h2, h3⟩ := R.obj a oa e'
      exact ⟨q, old a q h1, h2, h3.mono (stp_add0 R).toStp0 rfl⟩
  · by_cases ha : a = s.next
    · by_cases hb : b = s.next
      · rw [ha, hb]
      · exfalso
        have eb' : s.heap b = some ob' := (if_neg hb).symm.trans eb
        have h2' : g.mu b = some q := (if_neg hb).symm.trans h2
        subst ha
        rw [new] at h1; cases h1
        exact o.nm b _ eb' h2'
    · have ea' : s.heap a = some oa := (if_neg ha).symm.trans ea
      have h1' : g.mu a = some q := (if_neg ha).symm.trans h1
      by_cases hb : b = s.next
      · exfalso
        subst hb
        rw [new] at h2; cases h2
        exact o.nm a _ ea' h1'
      · exact R.inj a b q oa ob' ea' ((if_neg hb).symm.trans eb) h1' ((if_neg hb).symm.trans h2)
theorem Rel.frzOwn (R : Rel K g s H) (o : Own g s H p) : Rel K (g.frz p) s H :=
  ⟨R.dom, fun a ob e => let ⟨q, h1, h2, h3⟩ := R.obj a ob e; ⟨q, h1, ⟨fun z => z.elim h2.1 fun e' => o.nm a ob e (e' ▸ h1), h2.2⟩, h3.mono (g' := g.frz p) stp_freeze.toStp0 rfl⟩, R.inj, fun q h => h.elim (R.zz q) fun e => e ▸ o.there,
    fun q h => ⟨(R.pp q h).1, fun z => z.elim (R.pp q h).2 fun e => o.np (e ▸ h)⟩, fun q hq => ⟨(R.tt q hq).1, fun z => z.elim (R.tt q hq).2.1 (tabG_ne (R.tt q hq).1 o.nb), (R.tt q hq).2.2⟩⟩
/-- a list that we made, p, is handed on -/
theorem own_mkL {m : Bool} {ds : List D} {vs : List V} {Q : VK} (R : Rel K g s H) (o : Own g s H p) (hp : H p = some (.lst vs)) (r : RDs K g H ds vs) (h : Post K W g H σ (RD K) (mkL m ds s) Q) : Q (.ref p) H := by
  unfold mkL at h
  by_cases hl : ds.length ≤ LINE
  · rw [if_pos hl] at h
    cases m with
    | false => exact h (g.frz p) _ _ stp_freeze (R.frzOwn o) ⟨p, vs, rfl, .inr rfl, hp, RDs.mono stp_freeze.toStp0 _ _ r⟩
    | true => exact h (g.add s.next p) _ _ (stp_add0 R) (R.addOwn o ⟨vs, hp, RDs.mono (stp_add0 R).toStp0 _ _ r⟩) ⟨p, rfl, if_pos rfl⟩
  · rw [if_neg hl] at h; exact h.elim
/-- a dict that we made -/
def mkD (m : Bool) (kvs : List (Key × D)) : S → R D := fun s => if m then .ok (.ref s.next) (s.alloc (.dK kvs)) else .ok (.dv (kvs.map (·.1)) (kvs.map (·.2))) s
theorem own_mkD {m : Bool} {kvs : List (Key × D)} {ws : List (Key × V)} {Q : VK} (R : Rel K g s H) (o : Own g s H p) (hp : H p = some (.dK ws)) (e : ws.map (·.1) = kvs.map (·.1)) (r : RDs K g H (kvs.map (·.2)) (ws.map (·.2)))
    (h : Post K W g H σ (RD K) (mkD m kvs s) Q) : Q (.ref p) H := by
  cases m with
  | false => exact h (g.frz p) _ _ stp_freeze (R.frzOwn o) ⟨p, ws, rfl, .inr rfl, hp, e, RDs.mono stp_freeze.toStp0 _ _ r⟩
  | true => exact h (g.add s.next p) _ _ (stp_add0 R) (R.addOwn o ⟨ws, hp, e, RDs.mono (stp_add0 R).toStp0 _ _ r⟩) ⟨p, rfl, if_pos rfl⟩
/-- what is protected, at the end of a turn: p changes -/
theorem turn_end {g0 g' : Gh} {H0 H' : Hp} {s' : S} {ob : HO} (st : Stp (g0.prot p) H0 g' H') (R' : Rel K g' s' H') (o : Own g0 s H0 p) (nt : ∀ xs, H0 p ≠ some (.tup xs)) (nf : ∀ ob u, H0 p ≠ some (.frz ob u)) (hob : ¬ Fx ob := by rintro (⟨_, h⟩ | ⟨_, h⟩) <;> cases h) :
    H' p = H0 p ∧ Stp g0 H0 (g'.unprot p) (upd H' p ob) ∧ Rel K (g'.unprot p) s' (upd H' p ob) ∧ Own (g'.unprot p) s' (upd H' p ob) p ∧ Stp0 g' H' (g'.unprot p) (upd H' p ob) := by
  have pp := st.pr p (.inr rfl)
  have nz : ¬ g'.z p := (R'.pp p pp.1).2
  have eH := pp.2
  have nm : ∀ a oa, s'.heap a = some oa → g'.mu a ≠ some p := fun a oa e z => by
    obtain ⟨q, h1, h2, h3⟩ := R'.obj a oa e
    rw [z] at h1; cases h1
    exact h2.2 pp.1
  have F : Free (g'.unprot p) H' p := ⟨nz, fun xs e => nt xs (eH ▸ e), fun ob u e => nf ob u (eH ▸ e), fun u e => o.nb u (eH ▸ e)⟩
  have np : ¬ (g'.unprot p).pr p := fun z => z.2 rfl
  have F0 : Stp0 g' H' (g'.unprot p) (upd H' p ob) := ⟨fun _ _ e => e, fun q h => ⟨h, upd_ne fun e : q = p => nz (by rw [← e]; exact h)⟩, fun q xs e => (upd_ne fun z : q = p => nt xs (by rw [← eH, ← z]; exact e)).trans e, fun q o u _ e => (upd_ne fun z : q = p => nf o u (by rw [← eH, ← z]; exact e)).trans e⟩
  refine ⟨eH, ⟨⟨fun a q e => st.mu a q e, fun q h => ?_, fun q xs e => F0.tup q xs (st.tup q xs e), fun q o u c e => F0.frz q o u c (st.frz q o u c e)⟩, fun q o u e => (upd_ne fun z : q = p => nf o u (by rw [← z]; exact e)).trans (st.fz q o u e), fun q h => ?_⟩, (R'.unprot).free F np nm, ⟨by rw [upd_same]; simp, nz, np, nm, fun u e => by rw [upd_same] at e; cases e; exact hob⟩, F0⟩
  · exact ⟨(st.z q h).1, (upd_ne fun e : q = p => nz (by rw [← e]; exact (st.z q h).1)).trans (st.z q h).2⟩
  · have hq : q ≠ p := fun e => o.np (e ▸ h)
    exact ⟨⟨(st.pr q (.inl h)).1, hq⟩, (upd_ne hq).trans (st.pr q (.inl h)).2⟩
end
/-! ### list comprehensions -/
/-- what is raised within is not spoken of -/
def nox {α : Type} (r : R α) : R α := match r with
  | .ok a s => .ok a s
  | _ => .bad
open Classical in
noncomputable def lcL (t : Tg) (gd : Option (Nat × Ob)) (own : List Nat) (tst : ME Bool) (elt : ME D) (env : Env) : List D → List D → S → R (List D)
  | [], acc, s => if GdOk gd s then .ok acc s else .bad
  | d :: ds, acc, s => if GdOk gd s then (match asg t d s (wipeE env own) with
    | none => .bad
    | some env1 => bd (nox (tst env1 s)) fun k s1 => if k then bd (nox (elt env1 s1)) fun y s2 => if acc.length < LINE then lcL t gd own tst elt env ds (acc ++ [y]) s2 else .bad else lcL t gd own tst elt env ds acc s1) else .bad
noncomputable def lcM (m : Bool) (t : Tg) (it : ME Itm) (own : List Nat) (tst : ME Bool) (elt : ME D) : ME D := fun env s => bd (it env s) fun im s1 => bd (lcL t im.2 own tst elt env im.1 [] s1) fun ds s2 => mkL m ds s2
def yesM : ME Bool := fun _ s => .ok true s
abbrev W0 : WX := fun _ _ _ _ => False
theorem Post.nox_of {α β : Type} {K : Frag} {W : WX} {g : Gh} {H : Hp} {σ σ' : L2.St} {rel : Gh → Hp → α → β → Prop} {r : R α} {Q : β → Hp → Prop} (h : Post K W g H σ rel (nox r) Q) : Post K W0 g H σ' rel r Q := by
  cases r with
  | ok a s => exact h
  | exc c fs s => exact h.elim
  | bad => exact h
abbrev PTX (X : Cx) (ifs : List Expr) (m : ME Bool) : Prop := PTs X ifs (TT' X.K W0 m)
theorem PTs.imp {X : Cx} {e : List Expr} {t t' : TT} (h : PTs X e t) (i : ∀ σ H Q, t' σ H Q → t σ H Q) : PTs X e t' := ⟨fun pins s σ H Q I q => h.run pins s σ H Q I (i σ H Q q)⟩
theorem pt_yes {X : Cx} : PTX X [] yesM := PTs.imp pts_nil fun σ H Q ⟨g, s, env, R, E, p⟩ => p g H true (.refl _ _) R rfl
theorem pt_one {X : Cx} {c : Expr} {m : ME Bool} (h : PB X W0 c m) : PTX X [c] m := pts_one h
section
variable {X : Cx} {W : WX} {tg iter elt : Expr} {ifs : List Expr} {scope : Scope} {own : List (Str × Nat)} {pos : Pos} {t : Tg} {it : ME Itm} {tst : ME Bool} {em : ME D}
/-- the reading of such a comprehension by its meaning -/
theorem lc_reads {m : Bool} (hsl : ∀ i ∈ slots t, i ∈ own.map (·.2)) (σ : L2.St) (H : Hp) (Q : VK) (h : TE' X.K W (lcM m t it (own.map (·.2)) tst em) σ H Q) :
    tLc (TI' X.K W it) (gtOf X.K t) (TT' X.K W0 tst) (TE' X.K W0 em) (own.map (·.2)) σ H Q := by
  refine (TX.bind (rel := fun g H im J => ItOk X.K g H J im) h).imp fun J H0 ⟨g0, im, s0, env, R0, E0, hit, p0⟩ => ?_
  intro Dp hDp
  refine ⟨fun i m' H => m' = im.1.length - i ∧ i ≤ im.1.length ∧ ∃ g s acc vs, Stp g0 H0 g H ∧ Rel X.K g s H ∧ Own g s H Dp ∧ H Dp = some (.lst vs) ∧ RDs X.K g H acc vs ∧
      Post X.K W g H σ (RD X.K) (bd (lcL t im.2 (own.map (·.2)) tst em env (im.1.drop i) acc s) fun ds s2 => mkL m ds s2) Q,
    ⟨im.1.length, by simp, Nat.zero_le _, g0, s0, [], [], stp_new R0 hDp, R0.new hDp, own_new R0 hDp, upd_same, .nil, Post.later (stp_new R0 hDp) p0⟩, fun i m' H h => ?_⟩
  obtain ⟨rfl, hi, g, s, acc, vs, st, R, O, hD, ra, p⟩ := h
  by_cases hlt : i < im.1.length
  · have hd : im.1.drop i = im.1[i] :: im.1.drop (i + 1) := List.drop_eq_getElem_cons hlt
    rw [hd] at p
    unfold lcL at p
    by_cases hgd : GdOk im.2 s
    · rw [if_pos hgd] at p
      have RP := R.prot O
      have stP := st.trans (stp_prot (g := g) (H := H) (p := Dp))
      obtain ⟨_, hit'⟩ := hit (g.prot Dp) H s stP RP hgd
      obtain ⟨go, yld⟩ := hit' i im.1[i] (List.getElem?_eq_getElem hlt)
      refine .inr ⟨go, fun H' => ∃ m', m' < im.1.length - i ∧ m' = im.1.length - (i + 1) ∧ i + 1 ≤ im.1.length ∧ ∃ g s acc vs, Stp g0 H0 g H' ∧ Rel X.K g s H' ∧ Own g s H' Dp ∧ H' Dp = some (.lst vs) ∧ RDs X.K g H' acc vs ∧
        Post X.K W g H' σ (RD X.K) (bd (lcL t im.2 (own.map (·.2)) tst em env (im.1.drop (i + 1)) acc s) fun ds s2 => mkL m ds s2) Q, fun H' h => h, fun x H2 y => ?_⟩
      obtain ⟨g2, st2, R2, r2⟩ := yld x H2 y
      cases ea : asg t im.1[i] s (wipeE env (own.map (·.2))) with
      | none => simp only [ea] at p; exact p.elim
      | some env1 =>
        simp only [ea] at p
        have Ew : RE X.K g2 H2 (wipeE env (own.map (·.2))) (wipe σ (own.map (·.2))) := ((E0.mono stP.toStp0).mono st2.toStp0).wipe _
        refine tg_ok R2 Ew r2 ea fun σ1 E1 b1 => ⟨wipe_but b1 hsl, ?_⟩
        -- the end of a turn
        have fin : ∀ {g3 : Gh} {s3 : S} {H3 : Hp} {r : Co.R D}, Stp (g.prot Dp) H g3 H3 → Rel X.K g3 s3 H3 → Post X.K W g H σ (RD X.K) (bd (lcL t im.2 (own.map (·.2)) tst em env (im.1.drop (i + 1)) acc s3) fun ds s2 => mkL m ds s2) Q →
            ∃ m', m' < im.1.length - i ∧ m' = im.1.length - (i + 1) ∧ i + 1 ≤ im.1.length ∧ ∃ g s acc vs, Stp g0 H0 g H3 ∧ Rel X.K g s H3 ∧ Own g s H3 Dp ∧ H3 Dp = some (.lst vs) ∧ RDs X.K g H3 acc vs ∧
              Post X.K W g H3 σ (RD X.K) (bd (lcL t im.2 (own.map (·.2)) tst em env (im.1.drop (i + 1)) acc s) fun ds s2 => mkL m ds s2) Q := by
          intro g3 s3 H3 r st3 R3 p3
          obtain ⟨k1, k2, k3, k4, k5⟩ := turn_end (ob := .lst vs) st3 R3 O (fun xs e => by rw [hD] at e; cases e) (fun o u e => by rw [hD] at e; cases e)
          have eU : upd H3 Dp (.lst vs) = H3 := by
            funext q
            by_cases hq : q = Dp
            · rw [hq, upd_same, k1, hD]
            · exact upd_ne hq
          rw [eU] at k2 k3 k4 k5
          exact ⟨_, by omega, rfl, hlt, _, s3, acc, vs, st.trans k2, k3, k4, k1.trans hD, RDs.mono k2.toStp0 _ _ ra, Post.later k2 p3⟩
        rw [bd_assoc] at p
        have pt : Post X.K W0 g2 H2 σ1 Eqr (tst env1 s) _ := Post.nox_of (σ' := σ1) (Post.bind (rel := Eqr) (Post.later (stp_prot.trans st2) p))
        refine TX.mk R2 E1 (pt.imp fun k H3 ⟨g3, k', s3, st3, R3, ek, en0, p3⟩ => ?_)
        cases ek
        rw [en0] at p
        have sA := st2.trans st3
        cases k with
        | false =>
          simp only [Bool.false_eq_true, if_false] at p3 ⊢
          exact fin (r := .bad) sA R3 p
        | true =>
          have p3g : Post X.K W g H σ (RD X.K) (bd (bd (nox (em env1 s3)) fun y s4 => if acc.length < LINE then lcL t im.2 (own.map (·.2)) tst em env (im.1.drop (i + 1)) (acc ++ [y]) s4 else .bad) fun ds s2 => mkL m ds s2) Q := p
          have p3' : Post X.K W g3 H3 σ (RD X.K) (bd (bd (nox (em env1 s3)) fun y s4 => if acc.length < LINE then lcL t im.2 (own.map (·.2)) tst em env (im.1.drop (i + 1)) (acc ++ [y]) s4 else .bad) fun ds s2 => mkL m ds s2) Q := p3
          simp only [if_true] at p3 ⊢
          rw [bd_assoc] at p3' p3g
          have pe : Post X.K W0 g3 H3 σ1 (RD X.K) (em env1 s3) _ := Post.nox_of (σ' := σ1) (Post.bind (rel := RD X.K) p3')
          refine TX.mk R3 (E1.mono st3.toStp0) (pe.imp fun yv H4 ⟨g4, y', s4, st4, R4, ry, en, p4⟩ => ?_)
          rw [en] at p3g
          have sB := sA.trans st4
          obtain ⟨k1, k2, k3, k4, k5⟩ := turn_end (ob := .lst (vs ++ [yv])) sB R4 O (fun xs e => by rw [hD] at e; cases e) (fun o u e => by rw [hD] at e; cases e)
          have p3h : Post X.K W g H σ (RD X.K) (bd (if acc.length < LINE then lcL t im.2 (own.map (·.2)) tst em env (im.1.drop (i + 1)) (acc ++ [y']) s4 else .bad) fun ds s2 => mkL m ds s2) Q := p3g
          by_cases hl : acc.length < LINE
          · rw [if_pos hl] at p3h
            refine ⟨vs, k1.trans hD, by rw [← ra.length]; exact hl, _, by omega, rfl, hlt, _, s4, acc ++ [y'], vs ++ [yv], st.trans k2, k3, k4, upd_same, ?_, Post.later k2 p3h⟩
            exact RDs.append (RDs.mono k2.toStp0 _ _ ra) (.cons (RD.mono k5 _ _ ry) .nil)
          · rw [if_neg hl] at p3h; exact p3h.elim
    · rw [if_neg hgd] at p; exact p.elim
  · have ei : i = im.1.length := by omega
    have hd : im.1.drop i = [] := by rw [ei]; exact List.drop_length
    rw [hd] at p
    unfold lcL at p
    by_cases hgd : GdOk im.2 s
    · rw [if_pos hgd] at p
      obtain ⟨hst, _⟩ := hit g H s st R hgd
      exact .inl ⟨by rw [ei]; exact hst, own_mkL R O hD ra p⟩
    · rw [if_neg hgd] at p; exact p.elim
theorem px_lc {m : Bool} (hc : X.calm = true) (hN : X.N.Nodup) (ok : BlkOk X.N X.env.scope scope own) (hsl : ∀ i ∈ slots t, i ∈ own.map (·.2)) (hs : ∀ x, foldedSetIterable iter X.env x = pure x) (hi : PIX X W tg iter it)
    (hg : ∀ (s : Shared) (H : Hp) (C : Addr) (cl : List (Str × Addr)) (fp : List Addr), PGX (X.blk s H scope (compEnvC scope cl C X.env) fp) tg t) (ht : ∀ (s : Shared) (H : Hp) (C : Addr) (cl : List (Str × Addr)) (fp : List Addr), PTX (X.blk s H scope (compEnvC scope cl C X.env) fp) ifs tst)
    (he : ∀ (s : Shared) (H : Hp) (C : Addr) (cl : List (Str × Addr)) (fp : List Addr), PX (X.blk s H scope (compEnvC scope cl C X.env) fp) W0 elt em) : PX X W (.ListComp elt [⟨tg, iter, ifs, 0⟩] scope pos) (lcM m t it (own.map (·.2)) tst em) :=
  PE.imp (pe_lc (wi := TI' X.K W it) (g := gtOf X.K t) (tt := TT' X.K W0 tst) (te := TE' X.K W0 em) hc hN hi ok hg ht he hs) (lc_reads hsl)
/-- y = [..] on one line -/
theorem ps_setLc' {m : Bool} {i : Nat} {y : Str} {py spos : Pos} (hc : X.calm = true) (hN : X.N.Nodup) (hy : X.N[i]? = some y) (hyl : X.env.scope.names.lookup y = some .local)
    (hsw : swapsWith (.ListComp elt [⟨tg, iter, ifs, 0⟩] scope pos) (some (.Name y py)) spos.line X.env = pure true) (ok : BlkOk X.N X.env.scope scope own) (hsl : ∀ i ∈ slots t, i ∈ own.map (·.2)) (hs : ∀ x, foldedSetIterable iter X.env x = pure x) (hi : PIX X W tg iter it)
    (hg : ∀ (s : Shared) (H : Hp) (C : Addr) (cl : List (Str × Addr)) (fp : List Addr), PGX (X.blk s H scope (compEnvC scope cl C X.env) fp) tg t) (ht : ∀ (s : Shared) (H : Hp) (C : Addr) (cl : List (Str × Addr)) (fp : List Addr), PTX (X.blk s H scope (compEnvC scope cl C X.env) fp) ifs tst)
    (he : ∀ (s : Shared) (H : Hp) (C : Addr) (cl : List (Str × Addr)) (fp : List Addr), PX (X.blk s H scope (compEnvC scope cl C X.env) fp) W0 elt em) :
    PSX X W (.Assign [.Name y py] (.ListComp elt [⟨tg, iter, ifs, 0⟩] scope pos) spos) (setM i (lcM m t it (own.map (·.2)) tst em)) := by
  refine PS.imp (ps_setLc (wi := TI' X.K W it) (g := gtOf X.K t) (tt := TT' X.K W0 tst) (te := TE' X.K W0 em) hc hN hy hyl hsw hi ok hg ht he hs) fun σ H D h => ?_
  have h2 := TS'.bind (rel := RD X.K) h
  exact lc_reads (m := m) hsl σ H _ (h2.imp fun v H1 ⟨g1, d, s1, env, R1, E1, r1, p1⟩ => p1 g1 H1 _ (.refl _ _) R1 (E1.set i r1))
end
end Co
namespace Co
open PySem PySem.Spec PyProof.Rows L2
/-! ### built-in functions -/
/-- the reading r of a call asks what f brings -/
def OpN (K : Frag) (r : List V → Hp → VK → Prop) (f : List D → S → R D) : Prop := ∀ (W : WX) (g : Gh) (s : S) (H : Hp) (σ : L2.St) (ds : List D) (vs : List V) (Q : VK), Rel K g s H → RDs K g H ds vs → Post K W g H σ (RD K) (f ds s) Q → r vs H Q
section
variable {X : Cx} {W : WX} {e : Expr} {es : List Expr} {pos p : Pos} {mes : ME (List D)} {x : Str} {id T : String} {r : List V → Hp → VK → Prop} {f : List D → S → R D}
theorem px_blt (hc : CallR X (.builtin id) r) (hf : OpN X.K r f) (hg : Gl X x) (hm : X.mg x = none) (hv : bootBuiltins x = some (.builtin id)) (hn : x ≠ "__name__") (hdb : (x == ("__debug__" : Str)) = false)
    (he : starEach (e :: es) X.env = (false, eval e X.env) :: starEach es X.env) (hpl : (backTo pos (starEach es X.env)).any (·.1) = false) (ha : PL X W (e :: es) mes) : PX X W (.Call (.Name x p) (e :: es) [] pos) (argM f mes) :=
  PE.imp (pe_callB hc hg hm hv ha hn hdb he hpl) fun σ H Q h => (TX.bind (rel := RDs X.K) h).imp fun vs H1 ⟨g1, ds, s1, env, R1, E1, r1, p1⟩ => hf W g1 s1 H1 σ ds vs Q R1 r1 p1
theorem px_bty (hc : CallR X (.type T) r) (hf : OpN X.K r f) (hg : Gl X x) (hm : X.mg x = none) (hv : bootBuiltins x = some (.type T)) (hn : x ≠ "__name__") (hdb : (x == ("__debug__" : Str)) = false)
    (he : starEach (e :: es) X.env = (false, eval e X.env) :: starEach es X.env) (hpl : (backTo pos (starEach es X.env)).any (·.1) = false) (ha : PL X W (e :: es) mes) : PX X W (.Call (.Name x p) (e :: es) [] pos) (argM f mes) :=
  PE.imp (pe_callTy hc hg hm hv ha hn hdb he hpl) fun σ H Q h => (TX.bind (rel := RDs X.K) h).imp fun vs H1 ⟨g1, ds, s1, env, R1, E1, r1, p1⟩ => hf W g1 s1 H1 σ ds vs Q R1 r1 p1
end
section
variable {K : Frag} {g : Gh} {s : S} {H : Hp}
theorem sq_ok {d : D} {ds : List D} {v : V} (R : Rel K g s H) (r : RD K g H d v) (e : seqOf d s = some ds) : ∃ p vs, v = .ref p ∧ (SqL K H p vs ∨ SqT K H p vs) ∧ RDs K g H ds vs := by
  cases d with
  | tup xs =>
    cases e
    obtain ⟨p, vs, e1, e2, e3⟩ := r
    exact ⟨p, vs, e1, .inr (.of e2), e3⟩
  | ct xs =>
    cases e
    obtain ⟨p, vs, e1, e2, e3⟩ := r
    exact ⟨p, vs, e1, .inr e2.tup, e3⟩
  | _ =>
    obtain ⟨p, vs, e1, e2, e3⟩ := lst_ok R r e
    exact ⟨p, vs, e1, .inl e2, e3⟩
theorem one_of {ds : List D} {vs : List V} {d : D} (r : RDs K g H ds vs) (e : ds = [d]) : ∃ v, vs = [v] ∧ RD K g H d v := by
  subst e
  obtain ⟨v, us, rfl, h1, h2⟩ := r
  cases h2
  exact ⟨v, rfl, h1⟩
theorem two_of {ds : List D} {vs : List V} {d e : D} (r : RDs K g H ds vs) (h : ds = [d, e]) : ∃ v w, vs = [v, w] ∧ RD K g H d v ∧ RD K g H e w := by
  subst h
  obtain ⟨v, us, rfl, h1, w, us2, rfl, h2, h3⟩ := r
  cases h3
  exact ⟨v, w, rfl, h1, h2⟩
end
/-! ### len -/
def lenD (d : D) (s : S) : Option Nat := match d with
  | .str y => if y.length ≤ LINE then some y.length else none
  | d => match seqOf d s with
    | some ds => some ds.length
    | none => match d with
      | .ref a => match s.heap a with
        | some (.dK kvs) => some kvs.length
        | _ => none
      | _ => none
def lenF (ds : List D) (s : S) : R D := match ds with
  | [d] => match lenD d s with
    | some n => .ok (.int n) s
    | none => .bad
  | _ => .bad
def rLen (K : Frag) : List V → Hp → VK → Prop := fun xs H Q => (∃ p ys, xs = [.ref p] ∧ (SqL K H p ys ∨ SqT K H p ys) ∧ Q (.int ys.length) H) ∨ (∃ z, xs = [.str z] ∧ z.length ≤ sizeLine ∧ Q (.int z.length) H) ∨ ∃ a kvs, xs = [V.ref a] ∧ H a = some (.dK kvs) ∧ Q (.int kvs.length) H
theorem cr_len {X : Cx} : CallR X (.builtin "len") (rLen X.K) := CallR.or call_len_seq (CallR.or call_len_str call_lenD)
theorem opn_len {K : Frag} : OpN K (rLen K) lenF := by
  intro W g s H σ ds vs Q R r h
  unfold lenF at h
  split at h
  case h_2 => exact h.elim
  rename_i d
  obtain ⟨v, rfl, rv⟩ := one_of r rfl
  cases e : lenD d s with
  | none => rw [e] at h; exact h.elim
  | some n =>
    rw [e] at h
    have gen : (match seqOf d s with
        | some ds => some ds.length
        | none => match d with
          | .ref a => match s.heap a with
            | some (.dK kvs) => some kvs.length
            | _ => none
          | _ => none) = some n → rLen K [v] H Q := by
      intro e
      cases es : seqOf d s with
      | some ds =>
        rw [es] at e
        cases e
        obtain ⟨p, vs, rfl, e2, e3⟩ := sq_ok R rv es
        exact .inl ⟨p, vs, rfl, e2, post_ok (d := .int _) R (by rw [e3.length]; rfl) h⟩
      | none =>
        rw [es] at e
        cases d with
        | ref a =>
          have e' : (match s.heap a with | some (.dK kvs) => some kvs.length | _ => none) = some n := e
          split at e'
          · rename_i kvs ha
            cases e'
            obtain ⟨p, rfl, e2⟩ := rv
            obtain ⟨q, h1, _, ws, h3, h4, h5⟩ := R.obj a _ ha
            rw [e2] at h1; cases h1
            have hl : ws.length = kvs.length := by have := congrArg List.length h4; simpa using this
            exact .inr (.inr ⟨p, ws, rfl, h3, post_ok (d := .int kvs.length) R (by rw [hl]; rfl) h⟩)
          · cases e'
        | _ => cases e
    cases d with
    | str y =>
      have e' : (if y.length ≤ LINE then some y.length else none) = some n := e
      by_cases hl : y.length ≤ LINE
      · rw [if_pos hl] at e'
        cases e'
        cases rv
        exact .inr (.inl ⟨y, rfl, hl, post_ok (d := .int _) R rfl h⟩)
      · rw [if_neg hl] at e'; cases e'
    | _ => exact gen e
/-! ### int, str -/
def intB (ds : List D) (s : S) : R D := match ds with
  | [.int i] => .ok (.int i) s
  | [.bl k] => .ok (.int (if k then 1 else 0)) s
  | _ => .bad
theorem opn_int {K : Frag} : OpN K (fun xs H Q => (∃ i, xs = [.int i] ∧ Q (.int i) H) ∨ ∃ k, xs = [.bl k] ∧ Q (.int (if k then 1 else 0)) H) intB := by
  intro W g s H σ ds vs Q R r h
  unfold intB at h
  split at h
  · obtain ⟨v, rfl, rv⟩ := one_of r rfl
    cases rv
    exact .inl ⟨_, rfl, post_ok (d := .int _) R rfl h⟩
  · obtain ⟨v, rfl, rv⟩ := one_of r rfl
    cases rv
    exact .inr ⟨_, rfl, post_ok (d := .int _) R rfl h⟩
  · exact h.elim
def strB (ds : List D) (s : S) : R D := match ds with
  | [.int i] => if i.natAbs.log2 < 1920 then .ok (.str (toString i)) s else .bad
  | _ => .bad
theorem opn_str {K : Frag} : OpN K (fun xs H Q => ∃ i : Int, xs = [.int i] ∧ i.natAbs.log2 < 1920 ∧ Q (.str (toString i)) H) strB := by
  intro W g s H σ ds vs Q R r h
  unfold strB at h
  split at h
  · rename_i i
    obtain ⟨v, rfl, rv⟩ := one_of r rfl
    cases rv
    by_cases hl : i.natAbs.log2 < 1920
    · rw [if_pos hl] at h
      exact ⟨_, rfl, hl, post_ok (d := .str _) R rfl h⟩
    · rw [if_neg hl] at h; exact h.elim
  · exact h.elim
/-! ### max, min of two -/
def max2F (ds : List D) (s : S) : R D := match ds with
  | [.int i, .int j] => .ok (.int (if j > i then j else i)) s
  | _ => .bad
def min2F (ds : List D) (s : S) : R D := match ds with
  | [.int i, .int j] => .ok (.int (if j < i then j else i)) s
  | _ => .bad
theorem opn_max2 {K : Frag} : OpN K (fun xs H Q => ∃ i j : Int, xs = [.int i, .int j] ∧ Q (.int (if j > i then j else i)) H) max2F := by
  intro W g s H σ ds vs Q R r h
  unfold max2F at h
  split at h
  · obtain ⟨v, w, rfl, rv, rw'⟩ := two_of r rfl
    cases rv; cases rw'
    exact ⟨_, _, rfl, post_ok (d := .int _) R rfl h⟩
  · exact h.elim
theorem opn_min2 {K : Frag} : OpN K (fun xs H Q => ∃ i j : Int, xs = [.int i, .int j] ∧ Q (.int (if j < i then j else i)) H) min2F := by
  intro W g s H σ ds vs Q R r h
  unfold min2F at h
  split at h
  · obtain ⟨v, w, rfl, rv, rw'⟩ := two_of r rfl
    cases rv; cases rw'
    exact ⟨_, _, rfl, post_ok (d := .int _) R rfl h⟩
  · exact h.elim
/-! ### tuple, list -/
/-- tuple(..); c: the new tuple is known to have no dict -/
def mkC (c : Bool) (ds : List D) : S → R D := fun s => if c then (if ds.length ≤ LINE then .ok (.ct ds) s else .bad) else mkT ds s
def tupB (c : Bool) (ds : List D) (s : S) : R D := match ds with
  | [.tup xs] => .ok (.tup xs) s
  | [.ct xs] => .ok (.ct xs) s
  | [d] => match lstOf d s with
    | some xs => mkC c xs s
    | none => .bad
  | _ => .bad
def rTupN (K : Frag) : List V → Hp → VK → Prop := fun xs H Q => ∃ p ys, xs = [.ref p] ∧ SqL K H p ys ∧ ∀ l o, H l = none → o.dict = none → Q (.ref l) (upd H l (.frz o (.tup ys)))
theorem call_tupleN {X : Cx} : CallR X (.type "tuple") (rTupN X.K) := by
  intro pins s σ H xs us Q I r h
  obtain ⟨p, ys, rfl, hq, q⟩ := h
  obtain ⟨u, rfl, rx⟩ := vals1 r
  cases rx
  obtain ⟨its, r', pl, hz⟩ := I.list hq
  have hlen := r'.length
  refine call_tuple_list pl.isList (fun h' kp => ?_) (by simp only [List.size_toArray] <;> omega)
  have I1 : Inv X pins σ H { s with heap := h' } := I.kept (t' := s.toks) kp
  have I2 : Inv X pins σ (upd H h'.objs.size (.frz { cls := .type "tuple", data := .seq its.toArray } (.tup ys))) { s with heap := h'.push { cls := .type "tuple", data := .seq its.toArray } } :=
    I1.laid (t' := s.toks) (fun b o e => Heap.get?_push_of_some _ e) (Nat.le_refl _) ⟨Heap.get?_push_size _ rfl, hz, its, r', IsTup.new _ _⟩
  exact ⟨.ref h'.objs.size, _, I2, rfl, q _ _ (I1.hok.fresh (Nat.le_refl _)) rfl⟩
def rTupB (K : Frag) : List V → Hp → VK → Prop := fun xs H Q => rTupN K xs H Q ∨ ∃ p ys, xs = [.ref p] ∧ ((SqL K H p ys ∧ ∀ l, H l = none → Q (.ref l) (upd H l (.tup ys))) ∨ (SqT K H p ys ∧ Q (.ref p) H))
theorem cr_tup {X : Cx} : CallR X (.type "tuple") (rTupB X.K) := CallR.or call_tupleN call_tuple_of
theorem post_mkC {K : Frag} {W : WX} {g : Gh} {s : S} {H : Hp} {σ : L2.St} {ds : List D} {vs : List V} {Q : VK} (R : Rel K g s H) (r : RDs K g H ds vs) (h : Post K W g H σ (RD K) (mkC true ds s) Q) (p : Addr) (o : Obj) (hp : H p = none) (ho : o.dict = none) : Q (.ref p) (upd H p (.frz o (.tup vs))) := by
  unfold mkC at h
  rw [if_pos rfl] at h
  by_cases hl : ds.length ≤ LINE
  · rw [if_pos hl] at h
    exact h g _ _ (stp_new R hp) (R.new hp) ⟨p, vs, rfl, .inl ⟨o, upd_same, ho⟩, RDs.mono (stp_new R hp).toStp0 _ _ r⟩
  · rw [if_neg hl] at h; exact h.elim
theorem opn_tup {K : Frag} {c : Bool} : OpN K (rTupB K) (tupB c) := by
  intro W g s H σ ds vs Q R r h
  unfold tupB at h
  split at h
  · rename_i xs
    obtain ⟨v, rfl, rv⟩ := one_of r rfl
    obtain ⟨p, ys, rfl, e2, e3⟩ := id rv
    exact .inr ⟨p, ys, rfl, .inr ⟨.of e2, post_ok R rv h⟩⟩
  · rename_i xs
    obtain ⟨v, rfl, rv⟩ := one_of r rfl
    obtain ⟨p, ys, rfl, e2, e3⟩ := id rv
    exact .inr ⟨p, ys, rfl, .inr ⟨e2.tup, post_ok R rv h⟩⟩
  · rename_i d _ _
    obtain ⟨v, rfl, rv⟩ := one_of r rfl
    cases e : lstOf d s with
    | none => rw [e] at h; exact h.elim
    | some xs =>
      rw [e] at h
      obtain ⟨p, ys, rfl, e2, e3⟩ := lst_ok R rv e
      cases c with
      | true => exact .inl ⟨p, ys, rfl, e2, post_mkC R e3 h⟩
      | false => exact .inr ⟨p, ys, rfl, .inl ⟨e2, fun l hl => (post_mkT R e3 h).2 l hl⟩⟩
  · exact h.elim
def keysD (kvs : List (Key × D)) : List D := kvs.map fun kv => dOfKey kv.1
def dKOf (d : D) (s : S) : Option (List (Key × D)) := match d with
  | .ref a => match s.heap a with
    | some (.dK kvs) => some kvs
    | _ => none
  | _ => none
theorem dK_ok {K : Frag} {g : Gh} {s : S} {H : Hp} {d : D} {v : V} {kvs : List (Key × D)} (R : Rel K g s H) (r : RD K g H d v) (e : dKOf d s = some kvs) :
    ∃ p ws, v = .ref p ∧ H p = some (.dK ws) ∧ ws.map (·.1) = kvs.map (·.1) ∧ RDs K g H (kvs.map (·.2)) (ws.map (·.2)) := by
  cases d with
  | ref a =>
    obtain ⟨p, rfl, e2⟩ := r
    have e' : (match s.heap a with | some (.dK kvs) => some kvs | _ => none) = some kvs := e
    split at e'
    · rename_i ks ha
      cases e'
      obtain ⟨q, h1, _, ws, h3, h4, h5⟩ := R.obj a _ ha
      rw [e2] at h1; cases h1
      exact ⟨p, ws, rfl, h3, h4, h5⟩
    · cases e'
  | _ => cases e
theorem rd_key {K : Frag} {g : Gh} {H : Hp} (k : Key) : RD K g H (dOfKey k) (kV k) := by cases k <;> rfl
theorem rds_keys {K : Frag} {g : Gh} {H : Hp} : ∀ {kvs : List (Key × D)} {ws : List (Key × V)}, ws.map (·.1) = kvs.map (·.1) → RDs K g H (keysD kvs) (ws.map fun kv => kV kv.1)
  | [], [], _ => rfl
  | [], _ :: _, e => by simp at e
  | _ :: _, [], e => by simp at e
  | a :: kvs, b :: ws, e => by
    simp only [List.map_cons, List.cons.injEq] at e
    refine ⟨_, _, rfl, ?_, rds_keys e.2⟩
    show RD K g H (dOfKey a.1) (kV b.1)
    rw [e.1]
    exact rd_key _
def lstB (m : Bool) (ds : List D) (s : S) : R D := match ds with
  | [d] => match seqOf d s with
    | some xs => mkL m xs s
    | none => match dKOf d s with
      | some kvs => mkL m (keysD kvs) s
      | none => .bad
  | _ => .bad
def rLstB (K : Frag) : List V → Hp → VK → Prop := fun xs H Q => (∃ p ys, xs = [.ref p] ∧ (SqL K H p ys ∨ SqT K H p ys) ∧ ∀ l, H l = none → Q (.ref l) (upd H l (.lst ys))) ∨ rListD xs H Q
theorem cr_list {X : Cx} (hc : X.calm = true) : CallR X (.type "list") (rLstB X.K) := CallR.or call_list_of (call_list_dK hc)
theorem opn_lst {K : Frag} {m : Bool} : OpN K (rLstB K) (lstB m) := by
  intro W g s H σ ds vs Q R r h
  unfold lstB at h
  split at h
  case h_2 => exact h.elim
  rename_i d
  obtain ⟨v, rfl, rv⟩ := one_of r rfl
  cases e : seqOf d s with
  | some xs =>
    rw [e] at h
    obtain ⟨p, ys, rfl, e2, e3⟩ := sq_ok R rv e
    exact .inl ⟨p, ys, rfl, e2, (post_mkL R e3 h).2⟩
  | none =>
    rw [e] at h
    cases e' : dKOf d s with
    | none => rw [e'] at h; exact h.elim
    | some kvs =>
      rw [e'] at h
      obtain ⟨p, ws, rfl, h3, h4, h5⟩ := dK_ok R rv e'
      exact .inr ⟨p, ws, rfl, h3, (post_mkL R (rds_keys h4) h).2⟩
/-! ### dict of pairs, of a dict -/
/-- a pair: a tuple of two, its first a key -/
def pairD (d : D) : Option (Key × D) := match d with
  | .tup [k, x] => (keyOf k).map fun k => (k, x)
  | .ct [k, x] => (keyOf k).map fun k => (k, x)
  | _ => none
def pairsD : List D → Option (List (Key × D))
  | [] => some []
  | d :: ds => match pairD d, pairsD ds with
    | some p, some ps => some (p :: ps)
    | _, _ => none
def mergeD (kvs more : List (Key × D)) : List (Key × D) := more.foldl (fun acc kv => putD acc kv.1 kv.2) kvs
theorem pairs_vals {h : Heap} : ∀ {prs : List (Key × Value)} {ps : List Addr}, prs.length = ps.length → (∀ (j : Nat) (q : Key × Value), prs[j]? = some q → ∃ (b : Addr) (u : Value), ps[j]? = some b ∧ IsTup h b #[u, q.2] ∧ keyIs q.1 u = true) →
    ∃ kus : List (Value × Value), kus.length = ps.length ∧ ∀ (j : Nat) (k v : Value), kus[j]? = some (k, v) → ∃ (b : Addr) (q : Key × Value), ps[j]? = some b ∧ prs[j]? = some q ∧ q.2 = v ∧ IsTup h b #[k, v] ∧ keyIs q.1 k = true
  | [], ps, hl, key => ⟨[], by simpa using hl, fun j k v e => by simp at e⟩
  | q0 :: prs, [], hl, key => by simp at hl
  | q0 :: prs, p0 :: ps, hl, key => by
    obtain ⟨b, u, e1, e2, e3⟩ := key 0 q0 rfl
    obtain ⟨kus, h1, h2⟩ := pairs_vals (prs := prs) (ps := ps) (by simpa using hl) (fun j q e => by simpa using key (j + 1) q (by simpa using e))
    refine ⟨(u, q0.2) :: kus, by simp [h1], fun j k v e => ?_⟩
    cases j with
    | zero =>
      simp at e
      obtain ⟨rfl, rfl⟩ := e
      have eb : p0 = b := by simpa using e1
      subst eb
      exact ⟨p0, q0, rfl, rfl, rfl, e2, e3⟩
    | succ j =>
      obtain ⟨b, q, f1, f2, f3⟩ := h2 j k v (by simpa using e)
      exact ⟨b, q, by simpa using f1, by simpa using f2, f3⟩
/-- dict(t) of a tuple of pairs that has no dict -/
def rDictT (K : Frag) : List V → Hp → VK → Prop := fun xs H Q => ∃ (a : Addr) (ps : List Addr) (kvs : List (Key × V)), xs = [.ref a] ∧ SqC K H a (ps.map V.ref) ∧ Paired (fun p kv => SqT K H p [kV kv.1, kv.2]) ps kvs ∧
    ∀ p, H p = none → Q (.ref p) (upd H p (.dK (mergeK [] kvs)))
theorem call_dictT {X : Cx} (hcalm : X.calm = true) : CallR X (.type "dict") (rDictT X.K) := by
  intro pins s σ H xs us Q I r q
  obtain ⟨a, ps, kvs, ex, hq, hp, q⟩ := q
  subst ex
  obtain ⟨u, eu, rx⟩ := vals1 r
  subst eu
  cases rx
  have plain : ∃ its : List Value, Vals (ps.map V.ref) its ∧ PlainSeq "tuple" s.heap a its.toArray ∧ (ps.map V.ref).length ≤ sizeLine := by
    rcases hq with ⟨o, h1, h2⟩ | ⟨o, its, n, h1, h2, h3, h4, h5, h6⟩
    · obtain ⟨hg, hz, its, rv, o', g1, g2, n, g3⟩ := I.hok a _ h1
      rw [hg] at g1
      cases g1
      exact ⟨its, rv, ⟨o, n, hg, g2, h2, g3⟩, hz⟩
    · refine ⟨its.toList, h6, ⟨o, n, I.kIn a o h1, h2, h3, by rw [Array.toArray_toList]; exact h4⟩, ?_⟩
      rw [h6.length, Array.length_toList]
      exact h5
  obtain ⟨its, rv, pl, hz⟩ := plain
  have ei := refs_at rv
  subst ei
  rw [List.length_map] at hz
  obtain ⟨prs, rel, hl, hpr⟩ := pairs_of I hp
  obtain ⟨kus, hk1, hk2⟩ := pairs_vals hl hpr
  have at_ : ∀ j : Nat, (ps.map Value.ref).toArray[j]? = (ps[j]?).map Value.ref := fun j => by rw [← Array.getElem?_toList, List.toList_toArray, List.getElem?_map]
  have pit : PairItems s.heap (ps.map Value.ref).toArray (fun j => (ps[j]?).getD 0) kus := by
    refine ⟨by simp [hk1], fun j k v e => ?_⟩
    obtain ⟨b, q, f1, f2, f3, f4, f5⟩ := hk2 j k v e
    have ej : (ps[j]?).getD 0 = b := by rw [f1]; rfl
    refine ⟨by rw [at_, f1]; show some (Value.ref b) = some (Value.ref ((ps[j]?).getD 0)); rw [ej], .inl ?_⟩
    show s.heap.IsTuple ((ps[j]?).getD 0) #[k, v]
    rw [ej]
    obtain ⟨o, g1, g2, n, g3⟩ := f4
    exact ⟨o, g1, g2, n, g3⟩
  have hm : (s.heap.objs.size == sysModules) = false := beq_eq_false_iff_ne.mpr (Nat.ne_of_gt I.big)
  have hlen : (mergeK [] kvs).length ≤ sizeLine := by
    refine Nat.le_trans (length_mergeK kvs []) ?_
    rw [List.length_nil, Nat.zero_add, rel.length, hl]
    exact hz
  refine PySem.call_dict_pairs (knd := mixKind X.prog X.w) (kvs := prs) (PairArg.tuple a (ps.map Value.ref).toArray (fun j => (ps[j]?).getD 0) kus) (I.ok.hd hcalm) ⟨pl, pit⟩ ⟨by rw [hl, hk1], fun i k v e => ?_⟩ (by rw [hk1]; exact hz) fun h' tk hd' kp => ?_
  · obtain ⟨b, q, f1, f2, f3, f4, f5⟩ := hk2 i k v e
    subst f3
    exact ⟨q.1, f2, f5⟩
  · exact ⟨.ref s.heap.objs.size, upd H s.heap.objs.size (.dK (mergeK [] kvs)), I.laid (t' := tk) (fun b o e => kp b o (by simp) e) (Nat.le_refl _) (show ObjOk X.prog X.w _ _ _ (.dK (mergeK [] kvs)) from ⟨hlen, hm, merged [] prs, KV.merge rel .nil, hd'⟩), rfl, q _ (I.hok.fresh (Nat.le_refl _))⟩
def rDictP (K : Frag) : List V → Hp → VK → Prop := fun xs H Q => ∃ (a : Addr) (ps : List Addr) (kvs : List (Key × V)), xs = [.ref a] ∧ SqL K H a (ps.map V.ref) ∧ Paired (fun p kv => SqT K H p [kV kv.1, kv.2]) ps kvs ∧
    ∀ p, H p = none → Q (.ref p) (upd H p (.dK (mergeK [] kvs)))
def rDictD : List V → Hp → VK → Prop := fun xs H Q => ∃ (a : Addr) (kvs : List (Key × V)), xs = [.ref a] ∧ Rd H a (.dK kvs) ∧ ∀ p, H p = none → Q (.ref p) (upd H p (.dK kvs))
def rDictB (K : Frag) : List V → Hp → VK → Prop := fun xs H Q => rDictP K xs H Q ∨ rDictT K xs H Q ∨ rDictD xs H Q
theorem cr_dict {X : Cx} (hc : X.calm = true) : CallR X (.type "dict") (rDictB X.K) := CallR.or (call_dictP hc) (CallR.or (call_dictT hc) call_dictD)
/-- seqs that dict(..) is told of -/
def dseqOf (d : D) (s : S) : Option (List D) := match d with
  | .ct ds => some ds
  | d => lstOf d s
def dicF (ds : List D) (s : S) : R D := match ds with
  | [d] => match dseqOf d s with
    | some xs => match pairsD xs with
      | some ps => .ok (.ref s.next) (s.alloc (.dK (mergeD [] ps)))
      | none => .bad
    | none => match dicOf d s with
      | some kvs => .ok (.ref s.next) (s.alloc (.dK kvs))
      | none => .bad
  | _ => .bad
section
variable {K : Frag} {g : Gh} {s : S} {H : Hp}
theorem pair_ok {d : D} {v : V} {p : Key × D} (r : RD K g H d v) (e : pairD d = some p) : ∃ a w, v = .ref a ∧ SqT K H a [kV p.1, w] ∧ RD K g H p.2 w := by
  unfold pairD at e
  split at e
  · rename_i k x
    obtain ⟨k', hk, rfl⟩ := Option.map_eq_some_iff.mp e
    obtain ⟨a, vs, rfl, h1, h2⟩ := r
    obtain ⟨v, w, rfl, h3, h4⟩ := two_of h2 rfl
    cases keyOf_ok h3 hk
    exact ⟨a, w, rfl, .of h1, h4⟩
  · rename_i k x
    obtain ⟨k', hk, rfl⟩ := Option.map_eq_some_iff.mp e
    obtain ⟨a, vs, rfl, h1, h2⟩ := r
    obtain ⟨v, w, rfl, h3, h4⟩ := two_of h2 rfl
    cases keyOf_ok h3 hk
    exact ⟨a, w, rfl, h1.tup, h4⟩
  · cases e
theorem pairs_ok : ∀ {ds : List D} {vs : List V} {ps : List (Key × D)}, RDs K g H ds vs → pairsD ds = some ps →
    ∃ (as : List Addr) (ws : List (Key × V)), vs = as.map V.ref ∧ Paired (fun p kv => SqT K H p [kV kv.1, kv.2]) as ws ∧ ws.map (·.1) = ps.map (·.1) ∧ RDs K g H (ps.map (·.2)) (ws.map (·.2))
  | [], vs, ps, r, e => by cases e; cases r; exact ⟨[], [], rfl, .nil, rfl, rfl⟩
  | d :: ds, vs, ps, r, e => by
    obtain ⟨v, us, rfl, h1, h2⟩ := r
    have e' : (match pairD d, pairsD ds with | some p, some ps => some (p :: ps) | _, _ => none) = some ps := e
    split at e'
    · rename_i p qs hp hq
      cases e'
      obtain ⟨a, w, rfl, e2, e3⟩ := pair_ok h1 hp
      obtain ⟨as, ws, rfl, f1, f2, f3⟩ := pairs_ok h2 hq
      exact ⟨a :: as, (p.1, w) :: ws, rfl, .cons e2 f1, by simp [f2], .cons e3 f3⟩
    · cases e'
theorem merge_rel : ∀ {ps : List (Key × D)} {ws : List (Key × V)} {kvs : List (Key × D)} {us : List (Key × V)}, ws.map (·.1) = ps.map (·.1) → RDs K g H (ps.map (·.2)) (ws.map (·.2)) → us.map (·.1) = kvs.map (·.1) → RDs K g H (kvs.map (·.2)) (us.map (·.2)) →
    (mergeK us ws).map (·.1) = (mergeD kvs ps).map (·.1) ∧ RDs K g H ((mergeD kvs ps).map (·.2)) ((mergeK us ws).map (·.2))
  | [], [], kvs, us, _, _, h3, h4 => ⟨h3, h4⟩
  | [], _ :: _, _, _, e, _, _, _ => by simp at e
  | _ :: _, [], _, _, e, _, _, _ => by simp at e
  | p :: ps, w :: ws, kvs, us, h1, h2, h3, h4 => by
    simp only [List.map_cons, List.cons.injEq] at h1
    obtain ⟨v, rs, e, f1, f2⟩ := h2
    simp only [List.map_cons, List.cons.injEq] at e
    obtain ⟨e1, e2⟩ := e
    obtain ⟨k1, k2⟩ := putK_rel (d := p.2) (v := w.2) p.1 (by rw [e1]; exact f1) h3 h4
    have ek : w.1 = p.1 := h1.1
    unfold mergeK mergeD
    rw [List.foldl_cons, List.foldl_cons, ek]
    exact merge_rel h1.2 (by rw [e2]; exact f2) k1 k2
end
theorem post_dnew {K : Frag} {W : WX} {g : Gh} {s : S} {H : Hp} {σ : L2.St} {kvs : List (Key × D)} {ws : List (Key × V)} {Q : VK} (R : Rel K g s H) (e : ws.map (·.1) = kvs.map (·.1)) (r : RDs K g H (kvs.map (·.2)) (ws.map (·.2)))
    (h : Post K W g H σ (RD K) (.ok (.ref s.next) (s.alloc (.dK kvs))) Q) (p : Addr) (hp : H p = none) : Q (.ref p) (upd H p (.dK ws)) := by
  have st := stp_add (o := .dK ws) R hp
  exact h (g.add s.next p) _ _ st (R.add hp ⟨ws, upd_same, e, RDs.mono st.toStp0 _ _ r⟩) ⟨p, rfl, if_pos rfl⟩
theorem opn_dict {K : Frag} : OpN K (rDictB K) dicF := by
  intro W g s H σ ds vs Q R r h
  unfold dicF at h
  split at h
  case h_2 => exact h.elim
  rename_i d
  obtain ⟨v, rfl, rv⟩ := one_of r rfl
  cases e : dseqOf d s with
  | some xs =>
    rw [e] at h
    cases e2 : pairsD xs with
    | none => simp only [e2] at h; exact h.elim
    | some ps =>
      simp only [e2] at h
      have sq : ∃ p vs, v = .ref p ∧ (SqL K H p vs ∨ SqC K H p vs) ∧ RDs K g H xs vs := by
        cases d with
        | ct ys => cases e; obtain ⟨p, vs, e1, e2, e3⟩ := rv; exact ⟨p, vs, e1, .inr e2, e3⟩
        | _ => obtain ⟨p, vs, e1, e2, e3⟩ := lst_ok R rv e; exact ⟨p, vs, e1, .inl e2, e3⟩
      obtain ⟨p, vs, rfl, e3, e4⟩ := sq
      obtain ⟨as, ws, rfl, f1, f2, f3⟩ := pairs_ok e4 e2
      obtain ⟨k1, k2⟩ := merge_rel (kvs := []) (us := []) f2 f3 rfl rfl
      rcases e3 with e3 | e3
      · exact .inl ⟨p, as, ws, rfl, e3, f1, fun q hq => post_dnew R k1 k2 h q hq⟩
      · exact .inr (.inl ⟨p, as, ws, rfl, e3, f1, fun q hq => post_dnew R k1 k2 h q hq⟩)
  | none =>
    rw [e] at h
    cases e' : dicOf d s with
    | none => simp only [e'] at h; exact h.elim
    | some kvs =>
      simp only [e'] at h
      obtain ⟨p, ws, rfl, h3, h4, h5⟩ := dic_ok R rv e'
      exact .inr (.inr ⟨p, ws, rfl, h3, fun q hq => post_dnew R h4 h5 h q hq⟩)
open PySem.W (AllAlike Sortable dataLe EachIs sorted_data)
/-! ### sorted: a list of data, or a dict's keys that are texts -/
def rSortD (K : Frag) : List V → Hp → VK → Prop := fun xs H Q => ∃ (a : Addr) (vs : List V) (ps : List PyData), xs = [.ref a] ∧ SqL K H a vs ∧ DpAll K H vs ps ∧ AllAlike ps ∧ Sortable ps ∧ (∀ p ∈ ps, p.depth ≤ 60) ∧
  ∀ l, H l = none → Q (.ref l) (upd H l (.lst (((vs.zip ps).mergeSort (dataLe false (·.2))).map (·.1))))
theorem dpAll_len {K : Frag} {H : Hp} : ∀ {vs : List V} {ps : List PyData}, DpAll K H vs ps → vs.length = ps.length
  | _, _, .nil => rfl
  | _, _, .cons _ t => by simp [dpAll_len t]
theorem dpAll_reads {X : Cx} {pins : List (Addr × Obj)} {σ : L2.St} {H : Hp} {s : Shared} (I : Inv X pins σ H s) : ∀ {vs : List V} {ps : List PyData} {us : List Value}, DpAll X.K H vs ps → Vals vs us →
    EachIs (fun u (q : V × PyData) => RelV q.1 u) us (vs.zip ps) ∧ EachIs (fun u (q : V × PyData) => ∃ as, Reads s.heap u q.2 as) us (vs.zip ps)
  | _, _, _, .nil, .nil => ⟨.nil, .nil⟩
  | _, _, _, .cons h t, .cons r q => ⟨.cons r (dpAll_reads I t q).1, .cons (Dp.reads I _ _ _ h r) (dpAll_reads I t q).2⟩
theorem vals_each : ∀ {us : List Value} {qs : List (V × PyData)}, EachIs (fun u (q : V × PyData) => RelV q.1 u) us qs → Vals (qs.map (·.1)) us
  | _, _, .nil => .nil
  | _, _, .cons h t => .cons h (vals_each t)
theorem cr_sortD {X : Cx} (hu : X.A.units + 64 < cLine) : CallR X (.builtin "sorted") (rSortD X.K) := by
  intro pins s σ H xs us Q I r h
  obtain ⟨a, vs, ps, rfl, hs, hd, hal, hk, hdep, q⟩ := h
  obtain ⟨u, rfl, rx⟩ := vals1 r
  cases rx
  obtain ⟨its, rv, pl, hz⟩ := I.list hs
  have hl := dpAll_len hd
  have hzl : (vs.zip ps).length = vs.length := by rw [List.length_zip, ← hl, Nat.min_self]
  have hmap : (vs.zip ps).map (·.2) = ps := List.map_snd_zip (by omega)
  obtain ⟨e1, e2⟩ := dpAll_reads I hd rv
  refine sorted_data (bs := vs.zip ps) (enc := (·.2)) pl.isList e1 e2 (by rw [hmap]; exact hal) (by rw [hmap]; exact hk) (by rw [hzl]; exact hz) (fun b hb => ?_) fun out h1 h2 => ?_
  · have := hdep b.2 (by rw [← hmap]; exact List.mem_map.mpr ⟨b, hb, rfl⟩)
    omega
  · obtain ⟨ep, he'⟩ := PyProof.Rows.sortedAll_at s.heap its out.toArray
    have hv := vals_each h2
    have hlen : (((vs.zip ps).mergeSort (dataLe false (·.2))).map (·.1)).length ≤ sizeLine := by rw [List.length_map, List.length_mergeSort, hzl]; exact hz
    exact ⟨.ref _, upd H (s.heap.objs.size + 1) (.lst (((vs.zip ps).mergeSort (dataLe false (·.2))).map (·.1))), I.laid (t' := s.toks) (fun _ _ => PyProof.Rows.sortedAll_old) (Nat.le_succ _) ⟨hlen, out, ep, hv, he'⟩, rfl, q _ (I.hok.fresh (Nat.le_succ _))⟩
theorem merge3 {ds : List D} {vs : List V} {ps : List PyData} (h1 : ds.length = ps.length) (h2 : vs.length = ps.length) :
    ∃ ts : List (D × V × PyData), ((ds.zip ps).mergeSort (dataLe false (·.2))) = ts.map (fun t => (t.1, t.2.2)) ∧ ((vs.zip ps).mergeSort (dataLe false (·.2))) = ts.map (fun t => (t.2.1, t.2.2)) ∧ ts.Perm (ds.zip (vs.zip ps)) := by
  refine ⟨(ds.zip (vs.zip ps)).mergeSort (dataLe false (·.2.2)), ?_, ?_, List.mergeSort_perm _ _⟩
  · have e : (ds.zip (vs.zip ps)).map (fun t => (t.1, t.2.2)) = ds.zip ps := by
      induction ds generalizing vs ps with
      | nil => simp
      | cons d ds ih => cases ps with
        | nil => simp at h1
        | cons p ps => cases vs with
          | nil => simp at h2
          | cons v vs => simpa using ih (by simpa using h1) (by simpa using h2)
    rw [List.map_mergeSort (r := dataLe false fun t : D × V × PyData => t.2.2) (s := dataLe false fun t : D × PyData => t.2) (fun a _ b _ => rfl), e]
  · have e : (ds.zip (vs.zip ps)).map (fun t => (t.2.1, t.2.2)) = vs.zip ps := by
      have : (vs.zip ps).length ≤ ds.length := by rw [List.length_zip]; omega
      exact List.map_snd_zip this
    rw [List.map_mergeSort (r := dataLe false fun t : D × V × PyData => t.2.2) (s := dataLe false fun t : V × PyData => t.2) (fun a _ b _ => rfl), e]
theorem rds_perm {K : Frag} {g : Gh} {H : Hp} {ds : List D} {vs : List V} (r : RDs K g H ds vs) : ∀ {p : D × V}, p ∈ ds.zip vs → RD K g H p.1 p.2 := by
  induction ds generalizing vs with
  | nil => intro p hp; simp at hp
  | cons d ds ih =>
    obtain ⟨v, us, rfl, h1, h2⟩ := r
    intro p hp
    rcases List.mem_cons.mp hp with e | hp
    · subst e; exact h1
    · exact ih h2 hp
theorem rds_map {K : Frag} {g : Gh} {H : Hp} {α : Type} {f : α → D} {k : α → V} : ∀ {ts : List α}, (∀ t ∈ ts, RD K g H (f t) (k t)) → RDs K g H (ts.map f) (ts.map k)
  | [], _ => rfl
  | t :: ts, h => .cons (h t List.mem_cons_self) (rds_map fun t ht => h t (List.mem_cons_of_mem _ ht))
open Classical in
noncomputable def sortDs (ds : List D) : Option (List D) := match pyL ds with
  | some ps => if PyData.canLayAll0 ps = true ∧ AllAlike ps ∧ Sortable ps ∧ ∀ p ∈ ps, p.depth ≤ 60 then some (((ds.zip ps).mergeSort (dataLe false (·.2))).map (·.1)) else none
  | none => none
def strsOf : List D → Option (List Str)
  | [] => some []
  | .str x :: ds => (strsOf ds).map (x :: ·)
  | _ :: _ => none
def leStr (x y : Str) : Bool := !decide (y.cps.toList < x.cps.toList)
noncomputable def sortB (m : Bool) (ds : List D) (s : S) : R D := match ds with
  | [d] => match lstOf d s with
    | some xs => match sortDs xs with
      | some ys => mkL m ys s
      | none => .bad
    | none => match dicOf d s with
      | some kvs => match strsOf (keysD kvs) with
        | some ks => if ks.length < 64 then mkL m ((ks.mergeSort leStr).map .str) s else .bad
        | none => .bad
      | none => .bad
  | _ => .bad
theorem pyL_len : ∀ {ds : List D} {ps : List PyData}, pyL ds = some ps → ds.length = ps.length
  | [], ps, e => by cases e; rfl
  | d :: ds, ps, e => by
    have e' : (match pyD d, pyL ds with | some p, some ps => some (p :: ps) | _, _ => none) = some ps := e
    split at e'
    · rename_i p qs hp hq
      cases e'
      simp [pyL_len hq]
    · cases e'
theorem sortDs_ok {K : Frag} {g : Gh} {H : Hp} {ds ys : List D} {vs : List V} (r : RDs K g H ds vs) (e : sortDs ds = some ys) : ∃ ps, DpAll K H vs ps ∧ AllAlike ps ∧ Sortable ps ∧ (∀ p ∈ ps, p.depth ≤ 60) ∧ RDs K g H ys (((vs.zip ps).mergeSort (dataLe false (·.2))).map (·.1)) := by
  unfold sortDs at e
  split at e
  · rename_i ps hp
    split at e
    · rename_i c
      cases e
      refine ⟨ps, dps_of ds vs ps r hp c.1, c.2.1, c.2.2.1, c.2.2.2, ?_⟩
      have hl := pyL_len hp
      obtain ⟨ts, t1, t2, t3⟩ := merge3 (vs := vs) hl (by rw [← r.length]; exact hl)
      rw [t1, t2, List.map_map, List.map_map]
      refine rds_map fun t ht => ?_
      have ht' := t3.mem_iff.mp ht
      refine rds_perm r (p := (t.1, t.2.1)) ?_
      obtain ⟨d, v, p⟩ := t
      obtain ⟨i, hi, hg⟩ := List.getElem_of_mem ht'
      have h1 := hg
      rw [List.getElem_zip, List.getElem_zip] at h1
      simp only [Prod.mk.injEq] at h1
      simp only [List.length_zip] at hi
      refine List.mem_iff_getElem.mpr ⟨i, by rw [List.length_zip]; omega, ?_⟩
      rw [List.getElem_zip, h1.1, h1.2.1]
    · cases e
  · cases e
theorem strsOf_ok : ∀ {ds : List D} {ks : List Str}, strsOf ds = some ks → ds = ks.map .str
  | [], ks, e => by cases e; rfl
  | .str x :: ds, ks, e => by
    obtain ⟨ks', h, rfl⟩ := Option.map_eq_some_iff.mp e
    rw [strsOf_ok h]
    rfl
  | .non :: _, _, e => by cases e
  | .bl _ :: _, _, e => by cases e
  | .int _ :: _, _, e => by cases e
  | .tup _ :: _, _, e => by cases e
  | .ct _ :: _, _, e => by cases e
  | .lv _ :: _, _, e => by cases e
  | .sc _ :: _, _, e => by cases e
  | .dv _ _ :: _, _, e => by cases e
  | .ref _ :: _, _, e => by cases e
theorem keys_strs : ∀ {kvs : List (Key × D)} {ks : List Str}, keysD kvs = ks.map D.str → kvs.map (·.1) = ks.map Sum.inr
  | [], [], _ => rfl
  | [], _ :: _, e => by simp [keysD] at e
  | _ :: _, [], e => by simp [keysD] at e
  | kv :: kvs, k :: ks, e => by
    obtain ⟨key, v⟩ := kv
    simp only [keysD, List.map_cons, List.cons.injEq] at e
    cases key with
    | inl i => cases e.1
    | inr x =>
      have e1 : x = k := by have := e.1; simpa [dOfKey] using this
      subst e1
      rw [List.map_cons, List.map_cons, keys_strs (kvs := kvs) e.2]
theorem rising_pw : ∀ {xs : List Str} {p : Str}, risingS p xs = true → leStr p (xs.headD p) = true ∧ sortedS xs = true := by
  intro xs p h
  cases xs with
  | nil =>
    refine ⟨?_, rfl⟩
    unfold leStr
    have : ¬ (p.cps.toList < p.cps.toList) := List.lt_irrefl _
    simp [this]
  | cons x r =>
    unfold risingS at h
    rw [Bool.and_eq_true] at h
    refine ⟨?_, h.2⟩
    unfold leStr
    rw [← PyProof.Rows.ltCps_eq]
    exact h.1
theorem leStr_trans (a b c : Str) (h1 : leStr a b = true) (h2 : leStr b c = true) : leStr a c = true := by
  unfold leStr at *
  simp only [Bool.not_eq_true', decide_eq_false_iff_not] at *
  have h1' : a.cps.toList ≤ b.cps.toList := h1
  have h2' : b.cps.toList ≤ c.cps.toList := h2
  exact (List.le_trans h1' h2' : a.cps.toList ≤ c.cps.toList)
theorem leStr_total (a b : Str) : (leStr a b || leStr b a) = true := by
  unfold leStr
  simp only [Bool.or_eq_true, Bool.not_eq_true', decide_eq_false_iff_not]
  exact (List.le_total a.cps.toList b.cps.toList : a.cps.toList ≤ b.cps.toList ∨ b.cps.toList ≤ a.cps.toList)
theorem leStr_anti {a b : Str} (h1 : leStr a b = true) (h2 : leStr b a = true) : a = b := by
  unfold leStr at *
  simp only [Bool.not_eq_true', decide_eq_false_iff_not] at *
  have h : a.cps.toList = b.cps.toList := List.le_antisymm (h1 : a.cps.toList ≤ b.cps.toList) h2
  obtain ⟨⟨x⟩⟩ := a
  obtain ⟨⟨y⟩⟩ := b
  simpa using h
theorem sortedS_pw : ∀ {xs : List Str}, sortedS xs = true → xs.Pairwise fun a b => leStr a b = true
  | [], _ => .nil
  | [x], _ => List.pairwise_singleton _ _
  | x :: y :: r, h => by
    have h' : risingS x (y :: r) = true := h
    obtain ⟨h1, h2⟩ := rising_pw h'
    have ih := sortedS_pw h2
    refine List.pairwise_cons.mpr ⟨fun z hz => ?_, ih⟩
    rcases List.mem_cons.mp hz with e | hz
    · subst e; exact h1
    · exact leStr_trans _ _ _ h1 ((List.pairwise_cons.mp ih).1 z hz)
theorem sort_uniq {ks ys : List Str} (hp : ys.Perm ks) (hs : sortedS ys = true) : ys = ks.mergeSort leStr := by
  refine List.Perm.eq_of_pairwise (le := fun a b => leStr a b = true) (fun a b _ _ h1 h2 => leStr_anti h1 h2) (sortedS_pw hs) ?_ (hp.trans (List.mergeSort_perm _ _).symm)
  exact List.pairwise_mergeSort leStr_trans leStr_total ks
def rSortK (K : Frag) : List V → Hp → VK → Prop := fun xs H Q => ∃ (a : Addr) (kvs : List (Key × V)) (ks : List Str), xs = [.ref a] ∧ Rd H a (.dK kvs) ∧ kvs.map (·.1) = ks.map Sum.inr ∧ ks.length < 64 ∧
    ∀ ys p, ys.Perm ks → sortedS ys = true → H p = none → Q (.ref p) (upd H p (.lst (ys.map V.str)))
def rSortB (K : Frag) : List V → Hp → VK → Prop := fun xs H Q => rSortD K xs H Q ∨ rSortK K xs H Q
theorem cr_sort {X : Cx} (hu : X.A.units + 64 < cLine) (hc : X.calm = true) : CallR X (.builtin "sorted") (rSortB X.K) := CallR.or (cr_sortD hu) (call_sortedD hc)
theorem opn_sort {K : Frag} {m : Bool} : OpN K (rSortB K) (sortB m) := by
  intro W g s H σ ds vs Q R r h
  unfold sortB at h
  split at h
  case h_2 => exact h.elim
  rename_i d
  obtain ⟨v, rfl, rv⟩ := one_of r rfl
  cases e : lstOf d s with
  | some xs =>
    rw [e] at h
    obtain ⟨p, us, rfl, e2, e3⟩ := lst_ok R rv e
    cases es : sortDs xs with
    | none => simp only [es] at h; exact h.elim
    | some ys =>
      simp only [es] at h
      obtain ⟨ps, h1, h2, h3, h4, h5⟩ := sortDs_ok e3 es
      exact .inl ⟨p, us, ps, rfl, e2, h1, h2, h3, h4, (post_mkL R h5 h).2⟩
  | none =>
    rw [e] at h
    cases e' : dicOf d s with
    | none => simp only [e'] at h; exact h.elim
    | some kvs =>
      simp only [e'] at h
      cases ek : strsOf (keysD kvs) with
      | none => simp only [ek] at h; exact h.elim
      | some ks =>
        simp only [ek] at h
        obtain ⟨p, ws, rfl, h3, h4, h5⟩ := dic_ok R rv e'
        by_cases hl : ks.length < 64
        · rw [if_pos hl] at h
          refine .inr ⟨p, ws, ks, rfl, h3, h4.trans (keys_strs (strsOf_ok ek)), hl, fun ys q hp hs hq => ?_⟩
          have e2 := sort_uniq hp hs
          subst e2
          exact (post_mkL (ds := (ks.mergeSort leStr).map D.str) (vs := (ks.mergeSort leStr).map V.str) R (rds_map fun t _ => rfl) h).2 q hq
        · rw [if_neg hl] at h; exact h.elim
end Co
namespace Co
open PySem PySem.Spec PyProof.Rows L2
/-! ### repr -/
/-- a value that is no object, and its data -/
def scalV : V → Option PyData
  | .non => some .none
  | .bl b => some (.bool b)
  | .int i => some (.int i)
  | .str x => some (.str x)
  | _ => none
def scalVs : List V → Option (List PyData)
  | [] => some []
  | v :: vs => match scalV v, scalVs vs with
    | some p, some ps => some (p :: ps)
    | _, _ => none
def reprOk (p : PyData) : Prop := p.showable = true ∧ p.depth ≤ 60 ∧ p.shown.length ≤ sizeLine
instance (p : PyData) : Decidable (reprOk p) := by unfold reprOk; exact inferInstance
def rRepr (K : Frag) : List V → Hp → VK → Prop := fun xs H Q =>
  (∃ v p, xs = [v] ∧ Dp K H v p ∧ p.hasDict = false ∧ reprOk p ∧ Q (.str p.shown) H) ∨
  ∃ a kvs ps, xs = [.ref a] ∧ Rd H a (.dK kvs) ∧ scalVs (kvs.map (·.2)) = some ps ∧ reprOk (.dict ((kvs.map fun kv => pyKey kv.1).zip ps)) ∧ Q (.str (PyData.dict ((kvs.map fun kv => pyKey kv.1).zip ps)).shown) H
theorem scal_reads {h : Heap} {v : V} {u : Value} {p : PyData} (e : scalV v = some p) (r : RelV v u) : Reads h u p [] := by
  cases v with
  | non => cases e; cases r; exact .none
  | bl b => cases e; cases r; exact .bool b
  | int i => cases e; obtain ⟨t, rfl⟩ := r; exact .int i t
  | str x => cases e; obtain ⟨t, rfl⟩ := r; exact .str x t
  | _ => cases e
theorem key_reads {h : Heap} {k : Key} {u : Value} (r : keyIs k u = true) : Reads h u (pyKey k) [] := by
  rcases keyIs_shape r with ⟨i, t, rfl, rfl⟩ | ⟨x, t, rfl, rfl⟩
  · exact .int i t
  · exact .str x t
theorem pairs_reads {P : Program} {w : World} {h : Heap} : ∀ {kvs : List (Key × V)} {vs : List (Key × Value)} {es : List DictEntry} {ps : List PyData}, KV kvs vs → Pairs (mixKind P w) es vs → scalVs (kvs.map (·.2)) = some ps →
    ReadsAll h (es.map (·.key)) (((kvs.map fun kv => pyKey kv.1).zip ps).map (·.1)) [] ∧ ReadsAll h (es.map (·.val)) (((kvs.map fun kv => pyKey kv.1).zip ps).map (·.2)) []
  | [], vs, es, ps, r, q, e => by
    cases r
    cases q
    cases e
    exact ⟨.nil, .nil⟩
  | kv :: kvs, vs, es, ps, r, q, e => by
    cases r with
    | cons h1 r =>
      cases q with
      | cons h2 h3 q =>
        have e' : (match scalV kv.2, scalVs (kvs.map (·.2)) with | some p, some ps => some (p :: ps) | _, _ => none) = some ps := e
        split at e'
        · rename_i p qs hp hq
          cases e'
          obtain ⟨i1, i2⟩ := pairs_reads (h := h) r q hq
          obtain ⟨j1, j2⟩ := h1
          refine ⟨ReadsAll.cons (as := []) (bs := []) (key_reads (by rw [j1]; exact h2)) i1, ReadsAll.cons (as := []) (bs := []) (scal_reads hp (by show L2.RelV kv.2 _; simp only [h3]; exact j2)) i2⟩
        · cases e'
theorem cr_repr {X : Cx} (hg : X.A.guards = some []) (hu : X.A.units + 64 < cLine) : CallR X (.builtin "repr") (rRepr X.K) := by
  intro pins s σ H xs us Q I r h
  rcases h with ⟨v, p, rfl, hd, hnd, ⟨hs, hdep, hsz⟩, q⟩ | ⟨a, kvs, ps, rfl, hd, hps, ⟨hs, hdep, hsz⟩, q⟩
  · obtain ⟨u, rfl, rx⟩ := vals1 r
    have ref : ∀ a : Addr, u = .ref a → wpAny (model X.prog X.w) X.A (call (.builtin "repr") [u]) (EP X pins σ Q) X.xe s := by
      intro a ea
      subst ea
      obtain ⟨as, rd⟩ := Dp.reads I p v _ hd rx
      exact repr_of_reads' rd hs (PyData.noDict_hsm hnd) hg (by omega) (fun _ _ e => e) (fun h' u tk hk => ⟨.str p.shown, H, I.kept hk, ⟨_, rfl⟩, q⟩) hsz
    cases hd with
    | non => cases rx; exact PySem.P.repr_of_none ⟨.str _, H, I.tok _, ⟨_, rfl⟩, q⟩
    | bl b => cases rx; exact PySem.P.repr_of_bool ⟨.str _, H, I.tok _, ⟨_, rfl⟩, q⟩
    | int i =>
      obtain ⟨t, rfl⟩ := rx
      exact PySem.P.repr_of_int (by simpa [PyData.showable] using hs) ⟨.str _, H, I.tok _, ⟨_, rfl⟩, q⟩
    | str x =>
      obtain ⟨t, rfl⟩ := rx
      exact PySem.P.repr_of_str ⟨.str _, H, I.tok _, ⟨_, rfl⟩, q⟩ (by simpa [PyData.shown] using hsz)
    | lst h1 h2 => exact ref _ rx
    | tup h1 h2 => exact ref _ rx
  · obtain ⟨u, rfl, rx⟩ := vals1 r
    cases rx
    obtain ⟨z, lo, vs, rel, o, es, ep, ho, hx, hdt, hk, hp, hn⟩ := (show ObjOk X.prog X.w H s.heap a (.dK kvs) from hd.ok I.hok)
    obtain ⟨i1, i2⟩ := pairs_reads (h := s.heap) rel hp hps
    have rd : Reads s.heap (.ref a) (.dict ((kvs.map fun kv => pyKey kv.1).zip ps)) (a :: [] ++ []) := .dict ho hx.1 hdt i1 i2
    exact repr_of_reads' rd hs (fun _ z => by
      have e : sysModules = a := by simpa using z
      rw [← e] at lo
      simp at lo) hg (by omega) (fun _ _ e => e) (fun h' u tk hk => ⟨.str _, H, I.kept hk, ⟨_, rfl⟩, q⟩) hsz
def scalD (d : D) : Bool := match d with
  | .non => true | .bl _ => true | .int _ => true | .str _ => true
  | _ => false
def dkScal (d : D) (s : S) : Bool := match dKOf d s with
  | some kvs => (kvs.map (·.2)).all scalD
  | none => false
def reprF (ds : List D) (s : S) : R D := match ds with
  | [d] => match pyT s d with
    | some p => if reprOk p ∧ (p.canLay0 = true ∨ dkScal d s = true) then .ok (.str p.shown) s else .bad
    | none => .bad
  | _ => .bad
theorem scal_rel {K : Frag} {g : Gh} {H : Hp} : ∀ {ds : List D} {vs : List V} {ps : List PyData}, RDs K g H ds vs → ds.all scalD = true → pyL ds = some ps → scalVs vs = some ps
  | [], vs, ps, r, _, e => by cases r; cases e; rfl
  | d :: ds, vs, ps, r, h, e => by
    obtain ⟨v, us, rfl, h1, h2⟩ := r
    rw [List.all_cons, Bool.and_eq_true] at h
    have e' : (match pyD d, pyL ds with | some p, some ps => some (p :: ps) | _, _ => none) = some ps := e
    split at e'
    · rename_i p qs hp hq
      cases e'
      have ih := scal_rel h2 h.2 hq
      have hv : scalV v = some p := by
        cases d with
        | non => cases h1; cases hp; rfl
        | bl b => cases h1; cases hp; rfl
        | int i => cases h1; cases hp; rfl
        | str x => cases h1; cases hp; rfl
        | _ => exact absurd h.1 (by simp [scalD])
      unfold scalVs
      rw [hv, ih]
    · cases e'
theorem keys_map {kvs : List (Key × D)} {ws : List (Key × V)} (h : ws.map (·.1) = kvs.map (·.1)) : (ws.map fun kv => pyKey kv.1) = kvs.map fun kv => pyKey kv.1 := by
  have := congrArg (List.map pyKey) h
  rw [List.map_map, List.map_map] at this
  exact this
theorem opn_repr {K : Frag} : OpN K (rRepr K) reprF := by
  intro W g s H σ ds vs Q R r h
  unfold reprF at h
  split at h
  case h_2 => exact h.elim
  rename_i d
  obtain ⟨v, rfl, rv⟩ := one_of r rfl
  cases e : pyT s d with
  | none => simp only [e] at h; exact h.elim
  | some p =>
    simp only [e] at h
    by_cases c : reprOk p ∧ (p.canLay0 = true ∨ dkScal d s = true)
    · rw [if_pos c] at h
      have hq := post_ok (d := .str p.shown) (v := .str p.shown) R rfl h
      rcases c.2 with c2 | c2
      · exact .inl ⟨v, p, rfl, dpT_of R rv e c2, PyData.hasDict_of_canLay p c2, c.1, hq⟩
      · unfold dkScal at c2
        cases ek : dKOf d s with
        | none => rw [ek] at c2; cases c2
        | some kvs =>
          rw [ek] at c2
          obtain ⟨a, ws, rfl, h3, h4, h5⟩ := dK_ok R rv ek
          have ep : ∃ ps, pyL (kvs.map (·.2)) = some ps ∧ p = .dict ((kvs.map fun kv => pyKey kv.1).zip ps) := by
            cases d with
            | ref b =>
              have ek' : (match s.heap b with | some (.dK kvs) => some kvs | _ => none) = some kvs := ek
              split at ek'
              · rename_i ks hb
                cases ek'
                have e' : (match s.heap b with
                  | some (.lst ds) => (pyL ds).map PyData.list
                  | some (.dK kvs) => (pyL (kvs.map (·.2))).map fun ps => PyData.dict ((kvs.map fun kv => pyKey kv.1).zip ps)
                  | _ => none) = some p := e
                rw [hb] at e'
                obtain ⟨ps, e1, e2⟩ := Option.map_eq_some_iff.mp e'
                exact ⟨ps, e1, e2.symm⟩
              · cases ek'
            | _ => cases ek
          obtain ⟨ps, e1, rfl⟩ := ep
          refine .inr ⟨a, ws, ps, rfl, .of h3, scal_rel h5 c2 e1, ?_, ?_⟩
          · rw [keys_map h4]; exact c.1
          · rw [keys_map h4]; exact hq
    · rw [if_neg c] at h; exact h.elim
end Co
namespace Co
open PySem PySem.Spec PyProof.Rows L2
/-! ### a dict is locked while it is walked -/
section
variable {K : Frag} {g g' : Gh} {s s' : S} {H H' : Hp} {a : Nat} {p : Addr}
/-- what a lock is told of -/
def lkOb : Ob → Option Ob
  | .dK kvs => some (.lk kvs)
  | .dT kvs => some (.lkT kvs)
  | _ => none
def ulOb : Ob → Option Ob
  | .lk kvs => some (.dK kvs)
  | .lkT kvs => some (.dT kvs)
  | _ => none
theorem lock_in {ob lb : Ob} (R : Rel K g s H) (ha : s.heap a = some ob) (hl : lkOb ob = some lb) :
    ∃ p u, g.mu a = some p ∧ H p = some u ∧ Mut (some u) ∧ (∀ o v, u ≠ .frz o v) ∧ (∀ xs, u ≠ .tup xs) ∧ ∀ od, Stp g H g (upd H p (.frz od u)) ∧ Rel K g (s.upd a lb) (upd H p (.frz od u)) := by
  obtain ⟨p, h1, h2, h3⟩ := R.obj a _ ha
  cases ob with
  | dK kvs =>
    cases hl
    obtain ⟨ws, h4, h5, h6⟩ := h3
    have F : Free g H p := ⟨h2.1, fun xs e => (by rw [h4] at e; cases e), fun o u e => (by rw [h4] at e; cases e), fun u e => (by rw [h4] at e; cases e; rintro (⟨_, h⟩ | ⟨_, h⟩) <;> cases h)⟩
    refine ⟨p, _, h1, h4, trivial, fun o v e => (by cases e), fun xs e => (by cases e), fun od => ?_⟩
    have st := stp_free (o := .frz od (.dK ws)) F h2.2
    exact ⟨st, R.upd ha rfl h1 ⟨od, ws, upd_same, h5, RDs.mono st.toStp0 _ _ h6⟩⟩
  | dT kvs =>
    cases hl
    obtain ⟨ws, h4, h5, h6⟩ := h3
    have F : Free g H p := ⟨h2.1, fun xs e => (by rw [h4] at e; cases e), fun o u e => (by rw [h4] at e; cases e), fun u e => (by rw [h4] at e; cases e; rintro (⟨_, h⟩ | ⟨_, h⟩) <;> cases h)⟩
    refine ⟨p, _, h1, h4, trivial, fun o v e => (by cases e), fun xs e => (by cases e), fun od => ?_⟩
    have st := stp_free (o := .frz od (.dT ws)) F h2.2
    exact ⟨st, R.upd ha rfl h1 ⟨od, ws, upd_same, h5, RDs.mono st.toStp0 _ _ h6⟩⟩
  | _ => cases hl
/-- .. and unlocked -/
theorem lock_out {lb ub : Ob} {od : Obj} {u : HO} (nf : ∀ o v, u ≠ .frz o v) (nt : ∀ xs, u ≠ .tup xs) (hp : H p = some u) (hm : g.mu a = some p) (st : Stp g (upd H p (.frz od u)) g' H') (st0 : Stp g H g (upd H p (.frz od u))) (R' : Rel K g' s' H') (ha : s'.heap a = some lb) (hl : ulOb lb = some ub) :
    H' p = some (.frz od u) ∧ Stp g H g' (upd H' p u) ∧ Rel K g' (s'.upd a ub) (upd H' p u) ∧ Stp0 g' H' g' (upd H' p u) := by
  have e : H' p = some (.frz od u) := st.fz p od u upd_same
  have stA := st0.trans st
  obtain ⟨q, h1, h2, h3⟩ := R'.obj a _ ha
  have hm' := stA.mu a p hm
  rw [hm'] at h1; cases h1
  have f0 : Stp0 g' H' g' (upd H' p u) := by
    refine ⟨fun _ _ e => e, fun q h => ⟨h, upd_ne fun z => h2.1 (z ▸ h)⟩, fun q xs eq => ?_, fun q o v c eq => ?_⟩
    · by_cases hq : q = p
      · subst hq; rw [e] at eq; cases eq
      · rw [upd_ne hq]; exact eq
    · by_cases hq : q = p
      · subst hq
        rw [e] at eq
        cases eq
        exfalso
        obtain ⟨xs, c | c⟩ := c
        · exact nt xs c
        · subst c
          cases lb with
          | lk kvs => obtain ⟨o, ws, k1, _⟩ := h3; rw [e] at k1; cases k1
          | lkT kvs => obtain ⟨o, ws, k1, _⟩ := h3; rw [e] at k1; cases k1
          | _ => cases hl
      · rw [upd_ne hq]; exact eq
  have nz : ¬ g'.z p := h2.1
  have np : ¬ g'.pr p := h2.2
  have ro : RO K g' (upd H' p u) p ub := by
    cases lb with
    | lk kvs =>
      cases hl
      obtain ⟨o, ws, k1, k2, k3⟩ := h3
      rw [e] at k1; cases k1
      exact ⟨ws, upd_same, k2, RDs.mono f0 _ _ k3⟩
    | lkT kvs =>
      cases hl
      obtain ⟨o, ws, k1, k2, k3⟩ := h3
      rw [e] at k1; cases k1
      exact ⟨ws, upd_same, k2, RDs.mono f0 _ _ k3⟩
    | _ => cases hl
  refine ⟨e, ⟨⟨stA.mu, fun q h => ?_, fun q xs eq => ?_, fun q o v c eq => ?_⟩, fun q o v eq => ?_, fun q h => ?_⟩, ⟨R'.dom, fun b ox eb => ?_, fun b c q ob' oc eb ec h4 h5 => ?_, fun q h => upd_some (R'.zz q h), fun q h => ⟨upd_some (R'.pp q h).1, (R'.pp q h).2⟩, fun q hq => ⟨tab_upd (R'.tt q hq).1 (fun u z => by rw [e] at z; cases z; rintro (⟨_, h⟩ | ⟨_, h⟩) <;> cases h), (R'.tt q hq).2⟩⟩, f0⟩
  · have hz := (stA.z q h).1
    exact ⟨hz, (upd_ne fun z : q = p => nz (by rw [← z]; exact hz)).trans (stA.z q h).2⟩
  · have hq : q ≠ p := fun z => by subst z; rw [hp] at eq; exact nt xs (Option.some.inj eq)
    rw [upd_ne hq]
    exact stA.tup q xs eq
  · have hq : q ≠ p := fun z => by subst z; rw [hp] at eq; exact nf o v (Option.some.inj eq)
    rw [upd_ne hq]
    exact stA.fz q o v eq
  · have hq : q ≠ p := fun z => by subst z; rw [hp] at eq; exact nf o v (Option.some.inj eq)
    rw [upd_ne hq]
    exact stA.fz q o v eq
  · have hz := (stA.pr q h).1
    exact ⟨hz, (upd_ne fun z : q = p => np (by rw [← z]; exact hz)).trans (stA.pr q h).2⟩
  · by_cases hb : b = a
    · subst hb
      have e' : ub = ox := Option.some.inj ((if_pos rfl).symm.trans eb)
      subst e'
      exact ⟨p, hm', ⟨nz, np⟩, ro⟩
    · have e' : s'.heap b = some ox := (if_neg hb).symm.trans eb
      obtain ⟨q, k1, k2, k3⟩ := R'.obj b ox e'
      refine ⟨q, k1, k2, k3.mono f0 (upd_ne fun z => hb ?_)⟩
      subst z
      exact R'.inj b a q ox lb e' ha k1 hm'
  · have there : ∀ b ox, (s'.upd a ub).heap b = some ox → ∃ oy, s'.heap b = some oy := fun b ox e => by
      by_cases h : b = a
      · exact ⟨lb, h ▸ ha⟩
      · exact ⟨ox, (if_neg h).symm.trans e⟩
    obtain ⟨oy, ey⟩ := there b ob' eb
    obtain ⟨oz, ez⟩ := there c oc ec
    exact R'.inj b c q oy oz ey ez h4 h5
end
/-- the abstract run: the dict that mi tells is locked -/
def unlkE {α : Type} (a : Nat) (r : R α) : R α := match r with
  | .ok x s' => match s'.heap a with
    | some lb => match ulOb lb with
      | some ub => .ok x (s'.upd a ub)
      | none => .bad
    | none => .bad
  | .exc c fs s' => .exc c fs s'
  | .bad => .bad
def lkAt (r : R D) (s : S) : Option (Nat × Ob) := match r with
  | .ok (.ref a) _ => match s.heap a with
    | some ob => (lkOb ob).map fun lb => (a, lb)
    | none => none
  | _ => none
def lockM {α : Type} (mi : ME D) (m : ME α) : ME α := fun env s => match lkAt (mi env s) s with
  | some (a, lb) => unlkE a (m env (s.upd a lb))
  | none => m env s
theorem lkAt_is {r : R D} {s : S} {a : Nat} {lb : Ob} (h : lkAt r s = some (a, lb)) : ∃ ob, s.heap a = some ob ∧ lkOb ob = some lb := by
  unfold lkAt at h
  split at h
  · rename_i b s'
    split at h
    · rename_i ob hb
      obtain ⟨l, h1, h2⟩ := Option.map_eq_some_iff.mp h
      cases h2
      exact ⟨ob, hb, h1⟩
    · cases h
  · cases h
section
variable {X : Cx} {W : WX} {e : Expr} {st : Stmt} {m mi : ME D}
theorem px_lock (h : PX X W e m) : PX X W e (lockM mi m) := by
  refine ⟨fun pins s σ H Q I hw => ?_⟩
  obtain ⟨g, t, env, R, E, p⟩ := hw
  unfold lockM at p
  cases hk : lkAt (mi env t) t with
  | none =>
    rw [hk] at p
    exact h.run pins s σ H Q I ⟨g, t, env, R, E, p⟩
  | some q =>
    obtain ⟨a, lb⟩ := q
    rw [hk] at p
    obtain ⟨ob, h1, h2⟩ := lkAt_is hk
    obtain ⟨P, u, hm, hp, mu, nf, nt, hst⟩ := lock_in R h1 h2
    refine (pe_lock h).run pins s σ H Q I ⟨P, u, hp, mu, fun od => ?_⟩
    obtain ⟨st0, R1⟩ := hst od
    refine ⟨g, t.upd a lb, env, R1, E.mono st0.toStp0, ?_⟩
    have p : Post X.K W g H σ (RD X.K) (unlkE a (m env (t.upd a lb))) Q := p
    cases hr : m env (t.upd a lb) with
    | ok d s' =>
      rw [hr] at p
      intro g' H' v st' R' r'
      have p : Post X.K W g H σ (RD X.K) (match s'.heap a with
        | some lb => match ulOb lb with
          | some ub => .ok d (s'.upd a ub)
          | none => .bad
        | none => .bad) Q := p
      cases ha : s'.heap a with
      | none => rw [ha] at p; exact p.elim
      | some lb' =>
        cases hu : ulOb lb' with
        | none => simp only [ha, hu] at p; exact p.elim
        | some ub =>
          simp only [ha, hu] at p
          obtain ⟨k1, k2, k3, k4⟩ := lock_out nf nt hp hm st' st0 R' ha hu
          exact ⟨k1, p g' _ v k2 k3 (RD.mono k4 _ _ r')⟩
    | exc c fs s' =>
      rw [hr] at p
      exact fun g' H' d st' R' x => p g' H' d (st0.trans st') R' x
    | bad => rw [hr] at p; exact p.elim
def unlkS (a : Nat) (r : R (Fl × Env)) : R (Fl × Env) := match r with
  | .ok (.ex c fs, env) s' => .ok (.ex c fs, env) s'
  | .ok x s' => match s'.heap a with
    | some lb => match ulOb lb with
      | some ub => .ok x (s'.upd a ub)
      | none => .bad
    | none => .bad
  | r => r
def lockS (mi : ME D) (m : MS) : MS := fun env s => match lkAt (mi env s) s with
  | some (a, lb) => unlkS a (m env (s.upd a lb))
  | none => m env s
theorem ps_lock' {m : MS} (h : PSX X W st m) : PSX X W st (lockS mi m) := by
  refine ⟨fun pins s σ H D I hw => ?_⟩
  obtain ⟨g, t, env, R, E, p⟩ := hw
  unfold lockS at p
  cases hk : lkAt (mi env t) t with
  | none =>
    rw [hk] at p
    exact h.run pins s σ H D I ⟨g, t, env, R, E, p⟩
  | some q =>
    obtain ⟨a, lb⟩ := q
    rw [hk] at p
    obtain ⟨ob, h1, h2⟩ := lkAt_is hk
    obtain ⟨P, u, hm, hp, mu, nf, nt, hst⟩ := lock_in R h1 h2
    refine (ps_lock h).run pins s σ H D I ⟨P, u, hp, mu, fun od => ?_⟩
    obtain ⟨st0, R1⟩ := hst od
    refine ⟨g, t.upd a lb, env, R1, E.mono st0.toStp0, ?_⟩
    have p : PostS X.K W g H (unlkS a (m env (t.upd a lb))) D := p
    cases hr : m env (t.upd a lb) with
    | ok fe s' =>
      obtain ⟨f, env'⟩ := fe
      rw [hr] at p
      intro g' H' σ' st' R' E'
      have fin : f ≠ .ex (match f with | .ex c _ => c | _ => "") (match f with | .ex _ fs => fs | _ => []) → ∃ ub, H' P = some (.frz od u) ∧ Stp g H g' (upd H' P u) ∧ Rel X.K g' (s'.upd a ub) (upd H' P u) ∧ Stp0 g' H' g' (upd H' P u) ∧ PostS X.K W g H (.ok (f, env') (s'.upd a ub)) D := by
        intro hf
        have p : PostS X.K W g H (match s'.heap a with
          | some lb => match ulOb lb with
            | some ub => .ok (f, env') (s'.upd a ub)
            | none => .bad
          | none => .bad) D := by
          cases f with
          | ex c fs => exact absurd rfl hf
          | _ => exact p
        cases ha : s'.heap a with
        | none => rw [ha] at p; exact p.elim
        | some lb' =>
          cases hu : ulOb lb' with
          | none => simp only [ha, hu] at p; exact p.elim
          | some ub =>
            simp only [ha, hu] at p
            obtain ⟨k1, k2, k3, k4⟩ := lock_out nf nt hp hm st' st0 R' ha hu
            exact ⟨ub, k1, k2, k3, k4, p⟩
      cases f with
      | nx =>
        obtain ⟨ub, k1, k2, k3, k4, p⟩ := fin (fun z => nomatch z)
        exact ⟨k1, p g' _ σ' k2 k3 (E'.mono k4)⟩
      | rt d =>
        obtain ⟨ub, k1, k2, k3, k4, p⟩ := fin (fun z => nomatch z)
        exact fun v rv => ⟨k1, p g' _ σ' k2 k3 (E'.mono k4) v (RD.mono k4 _ _ rv)⟩
      | bk =>
        obtain ⟨ub, k1, k2, k3, k4, p⟩ := fin (fun z => nomatch z)
        exact ⟨k1, p g' _ σ' k2 k3 (E'.mono k4)⟩
      | ct =>
        obtain ⟨ub, k1, k2, k3, k4, p⟩ := fin (fun z => nomatch z)
        exact ⟨k1, p g' _ σ' k2 k3 (E'.mono k4)⟩
      | ex c fs => exact fun d x => p g' H' σ' (st0.trans st') R' E' d x
    | exc c fs s' => rw [hr] at p; exact p.elim
    | bad => rw [hr] at p; exact p.elim
end
end Co
namespace Co
open PySem PySem.Spec PyProof.Rows L2
/-! ### what a for loop walks: lists, tuples, locked dicts, texts -/
def keysDT (kvs : List (List Key × D)) : List D := kvs.map fun kv => .tup (kv.1.map dOfKey)
def lkOf (x : D) (s : S) : Option (Nat × List (Key × D)) := match x with
  | .ref a => match s.heap a with
    | some (.lk kvs) => some (a, kvs)
    | _ => none
  | _ => none
def lkTOf (x : D) (s : S) : Option (Nat × List (List Key × D)) := match x with
  | .ref a => match s.heap a with
    | some (.lkT kvs) => some (a, kvs)
    | _ => none
  | _ => none
theorem lkOf_is {x : D} {s : S} {a : Nat} {kvs : List (Key × D)} (h : lkOf x s = some (a, kvs)) : x = .ref a ∧ s.heap a = some (.lk kvs) := by
  unfold lkOf at h
  split at h
  · split at h
    · rename_i h'; cases h; exact ⟨rfl, h'⟩
    · cases h
  · cases h
theorem lkTOf_is {x : D} {s : S} {a : Nat} {kvs : List (List Key × D)} (h : lkTOf x s = some (a, kvs)) : x = .ref a ∧ s.heap a = some (.lkT kvs) := by
  unfold lkTOf at h
  split at h
  · split at h
    · rename_i h'; cases h; exact ⟨rfl, h'⟩
    · cases h
  · cases h
def sigD (x : Str) : List D := x.cps.toList.map fun c => .str ⟨#[c]⟩
/-- the items, and what is to stay as it is -/
def anyIt (x : D) (s : S) : R Itm := match lkOf x s with
  | some (a, kvs) => .ok (keysD kvs, some (a, .lk kvs)) s
  | none => match lkTOf x s with
    | some (a, kvs) => .ok (keysDT kvs, some (a, .lkT kvs)) s
    | none => match x with
      | .tup ds => .ok (ds, none) s
      | .ct ds => .ok (ds, none) s
      | .str z => .ok (sigD z, none) s
      | x => lstIt x s
def anyItM (m : ME D) : ME Itm := fun env s => bd (m env s) anyIt
def valIt (x : D) (s : S) : R Itm := match lkOf x s with
  | some (a, kvs) => .ok (kvs.map (·.2), some (a, .lk kvs)) s
  | none => .bad
def valItM (m : ME D) : ME Itm := fun env s => bd (m env s) valIt
def iteIt (x : D) (s : S) : R Itm := match lkOf x s with
  | some (a, kvs) => .ok (kvs.map fun kv => .tup [dOfKey kv.1, kv.2], some (a, .lk kvs)) s
  | none => .bad
def iteItM (m : ME D) : ME Itm := fun env s => bd (m env s) iteIt
def keyIt (x : D) (s : S) : R Itm := match lkOf x s with
  | some (a, kvs) => .ok (keysD kvs, some (a, .lk kvs)) s
  | none => .bad
def keyItM (m : ME D) : ME Itm := fun env s => bd (m env s) keyIt
section
variable {K : Frag} {g : Gh} {s : S} {H : Hp} {a : Nat} {p : Addr} {o : Obj}
theorem lk_now {kvs : List (Key × D)} {ws : List (Key × V)} (hm : g.mu a = some p) (hp : H p = some (.frz o (.dK ws))) {g1 : Gh} {H1 : Hp} {s1 : S} (st : Stp g H g1 H1) (R1 : Rel K g1 s1 H1) (gd : s1.heap a = some (.lk kvs)) :
    H1 p = some (.frz o (.dK ws)) ∧ ws.map (·.1) = kvs.map (·.1) ∧ RDs K g1 H1 (kvs.map (·.2)) (ws.map (·.2)) := by
  have e := st.fz p o _ hp
  obtain ⟨q, h1, _, o', ws', h3, h4, h5⟩ := R1.obj a _ gd
  rw [st.mu a p hm] at h1; cases h1
  rw [e] at h3; cases h3
  exact ⟨e, h4, h5⟩
theorem lkT_now {kvs : List (List Key × D)} {ws : List (List Key × V)} (hm : g.mu a = some p) (hp : H p = some (.frz o (.dT ws))) {g1 : Gh} {H1 : Hp} {s1 : S} (st : Stp g H g1 H1) (R1 : Rel K g1 s1 H1) (gd : s1.heap a = some (.lkT kvs)) :
    H1 p = some (.frz o (.dT ws)) ∧ ws.map (·.1) = kvs.map (·.1) ∧ RDs K g1 H1 (kvs.map (·.2)) (ws.map (·.2)) := by
  have e := st.fz p o _ hp
  obtain ⟨q, h1, _, o', ws', h3, h4, h5⟩ := R1.obj a _ gd
  rw [st.mu a p hm] at h1; cases h1
  rw [e] at h3; cases h3
  exact ⟨e, h4, h5⟩
theorem keys_at' {kvs : List (Key × D)} {ws : List (Key × V)} (h : ws.map (·.1) = kvs.map (·.1)) (i : Nat) : (ws[i]?).map (·.1) = (kvs[i]?).map (·.1) := by
  rw [← List.getElem?_map, h, List.getElem?_map]
theorem keysT_at' {kvs : List (List Key × D)} {ws : List (List Key × V)} (h : ws.map (·.1) = kvs.map (·.1)) (i : Nat) : (ws[i]?).map (·.1) = (kvs[i]?).map (·.1) := by
  rw [← List.getElem?_map, h, List.getElem?_map]
theorem itOk_keys {kvs : List (Key × D)} {ws : List (Key × V)} (hm : g.mu a = some p) (hp : H p = some (.frz o (.dK ws))) : ItOk K g H (Itk p o ws) (keysD kvs, some (a, .lk kvs)) := by
  intro g1 H1 s1 st R1 gd
  obtain ⟨e, h4, h5⟩ := lk_now hm hp st R1 gd
  have hl : ws.length = kvs.length := by simpa using congrArg List.length h4
  refine ⟨⟨e, by show ws.length ≤ (keysD kvs).length; unfold keysD; rw [List.length_map]; omega⟩, fun i d ei => ?_⟩
  have ei : (keysD kvs)[i]? = some d := ei
  unfold keysD at ei
  rw [List.getElem?_map] at ei
  obtain ⟨kv, hk, rfl⟩ := Option.map_eq_some_iff.mp ei
  have hi : i < kvs.length := (List.getElem?_eq_some_iff.mp hk).1
  refine ⟨⟨e, by omega⟩, fun x H2 y => ?_⟩
  obtain ⟨rfl, k, v, hw, rfl⟩ := y
  have hk' := keys_at' h4 i
  rw [hw, hk] at hk'
  have ek : k = kv.1 := by simpa using hk'
  subst ek
  exact ⟨g1, .refl _ _, R1, rd_key _⟩
theorem itOk_keysT {kvs : List (List Key × D)} {ws : List (List Key × V)} (hm : g.mu a = some p) (hp : H p = some (.frz o (.dT ws))) : ItOk K g H (Itkt p o ws) (keysDT kvs, some (a, .lkT kvs)) := by
  intro g1 H1 s1 st R1 gd
  obtain ⟨e, h4, h5⟩ := lkT_now hm hp st R1 gd
  have hl : ws.length = kvs.length := by simpa using congrArg List.length h4
  refine ⟨⟨e, by show ws.length ≤ (keysDT kvs).length; unfold keysDT; rw [List.length_map]; omega⟩, fun i d ei => ?_⟩
  have ei : (keysDT kvs)[i]? = some d := ei
  unfold keysDT at ei
  rw [List.getElem?_map] at ei
  obtain ⟨kv, hk, rfl⟩ := Option.map_eq_some_iff.mp ei
  have hi : i < kvs.length := (List.getElem?_eq_some_iff.mp hk).1
  refine ⟨⟨e, by omega⟩, fun x H2 y => ?_⟩
  obtain ⟨rfl, k, v, q, hw, rfl, hq⟩ := y
  have hk' := keysT_at' h4 i
  rw [hw, hk] at hk'
  have ek : k = kv.1 := by simpa using hk'
  subst ek
  refine ⟨g1, .refl _ _, R1, q, _, rfl, hq, ?_⟩
  exact rds_map fun t _ => rd_key t
theorem itOk_vals {kvs : List (Key × D)} {ws : List (Key × V)} (hm : g.mu a = some p) (hp : H p = some (.frz o (.dK ws))) : ItOk K g H (Itd p o ws) (kvs.map (·.2), some (a, .lk kvs)) := by
  intro g1 H1 s1 st R1 gd
  obtain ⟨e, h4, h5⟩ := lk_now hm hp st R1 gd
  have hl : ws.length = kvs.length := by simpa using congrArg List.length h4
  refine ⟨⟨e, by show ws.length ≤ (kvs.map (·.2)).length; rw [List.length_map]; omega⟩, fun i d ei => ?_⟩
  have ei : (kvs.map (·.2))[i]? = some d := ei
  have hi : i < kvs.length := by simpa using (List.getElem?_eq_some_iff.mp ei).1
  refine ⟨⟨e, by omega⟩, fun x H2 y => ?_⟩
  obtain ⟨rfl, k, hw⟩ := y
  obtain ⟨v, hv, rv⟩ := h5.get ei
  rw [List.getElem?_map, hw] at hv
  cases hv
  exact ⟨g1, .refl _ _, R1, rv⟩
theorem itOk_items {kvs : List (Key × D)} {ws : List (Key × V)} (hm : g.mu a = some p) (hp : H p = some (.frz o (.dK ws))) : ItOk K g H (Iti p o ws) (kvs.map fun kv => .tup [dOfKey kv.1, kv.2], some (a, .lk kvs)) := by
  intro g1 H1 s1 st R1 gd
  obtain ⟨e, h4, h5⟩ := lk_now hm hp st R1 gd
  have hl : ws.length = kvs.length := by simpa using congrArg List.length h4
  refine ⟨⟨e, by show ws.length ≤ (kvs.map _).length; rw [List.length_map]; omega⟩, fun i d ei => ?_⟩
  have ei : (kvs.map fun kv => D.tup [dOfKey kv.1, kv.2])[i]? = some d := ei
  rw [List.getElem?_map] at ei
  obtain ⟨kv, hk, rfl⟩ := Option.map_eq_some_iff.mp ei
  have hi : i < kvs.length := (List.getElem?_eq_some_iff.mp hk).1
  refine ⟨⟨e, by omega⟩, fun x H2 y => ?_⟩
  obtain ⟨T, k, v, hw, rfl, hT, rfl⟩ := y
  have hk' := keys_at' h4 i
  rw [hw, hk] at hk'
  have ek : k = kv.1 := by simpa using hk'
  subst ek
  obtain ⟨v', hv, rv⟩ := h5.get (show (kvs.map (·.2))[i]? = some kv.2 by rw [List.getElem?_map, hk]; rfl)
  rw [List.getElem?_map, hw] at hv
  cases hv
  have st2 := stp_new (o := .tup [kV kv.1, v]) R1 hT
  exact ⟨g1, st2, R1.new hT, T, _, rfl, upd_same, .cons (rd_key _) (.cons (RD.mono st2.toStp0 _ _ rv) .nil)⟩
theorem itOk_sig {z : Str} : ItOk K g H (Its z) (sigD z, none) := by
  intro g1 H1 s1 st R1 _
  refine ⟨by show z.cps.size ≤ (sigD z).length; unfold sigD; rw [List.length_map, Array.length_toList]; exact Nat.le_refl _, fun i d ei => ?_⟩
  have ei : (sigD z)[i]? = some d := ei
  unfold sigD at ei
  rw [List.getElem?_map] at ei
  obtain ⟨c, hc, rfl⟩ := Option.map_eq_some_iff.mp ei
  have hi : i < z.cps.size := by simpa using (List.getElem?_eq_some_iff.mp hc).1
  refine ⟨hi, fun x H2 y => ?_⟩
  obtain ⟨rfl, c', h1, rfl⟩ := y
  rw [← Array.getElem?_toList, hc] at h1
  cases h1
  exact ⟨g1, .refl _ _, R1, rfl⟩
end
theorem PI.or {X : Cx} {tg e : Expr} {t t' : TI} (h : PI X tg e t) (h' : PI X tg e t') : PI X tg e (fun σ H Q => t σ H Q ∨ t' σ H Q) := ⟨fun pins s σ H Q I q => q.elim (h.run pins s σ H Q I) (h'.run pins s σ H Q I)⟩
section
variable {X : Cx} {W : WX} {tg a : Expr} {ma : ME D}
theorem pi_any (hs : PI X tg a (iStr (TE' X.K W ma))) (hk : PI X tg a (iKeys (TE' X.K W ma))) (ha : PX X W a ma) : PIX X W tg a (anyItM ma) := by
  refine PI.imp (PI.or hs (PI.or hk (PI.or (pi_lst' ha) (pi_tup' ha)))) fun σ H Q h => ?_
  obtain ⟨g, t, env, R, E, p⟩ := h
  have p : Post X.K W g H σ (fun g H im J => ItOk X.K g H J im) (bd (ma env t) anyIt) Q := p
  cases hm : ma env t with
  | exc c fs s' =>
    rw [hm] at p
    exact .inr (.inr (.inl ⟨g, t, env, R, E, by show Post _ _ _ _ _ _ (bd (ma env t) lstIt) Q; rw [hm]; exact p⟩))
  | bad => rw [hm] at p; exact p.elim
  | ok x s' =>
    rw [hm] at p
    replace p : Post X.K W g H σ (fun g H im J => ItOk X.K g H J im) (anyIt x s') Q := p
    unfold anyIt at p
    cases h1 : lkOf x s' with
    | some q =>
      obtain ⟨b, kvs⟩ := q
      simp only [h1] at p
      obtain ⟨rfl, hb⟩ := lkOf_is h1
      refine .inr (.inl ⟨g, t, env, R, E, ?_⟩)
      rw [hm]
      intro g' H' v st' R' r'
      obtain ⟨q, rfl, hq⟩ := r'
      obtain ⟨q', k1, _, o, ws, k3, k4, k5⟩ := R'.obj b _ hb
      rw [hq] at k1; cases k1
      exact ⟨q, o, rfl, .inl ⟨ws, k3, p g' H' _ st' R' (itOk_keys hq k3)⟩⟩
    | none =>
      simp only [h1] at p
      cases h2 : lkTOf x s' with
      | some q =>
        obtain ⟨b, kvs⟩ := q
        simp only [h2] at p
        obtain ⟨rfl, hb⟩ := lkTOf_is h2
        refine .inr (.inl ⟨g, t, env, R, E, ?_⟩)
        rw [hm]
        intro g' H' v st' R' r'
        obtain ⟨q, rfl, hq⟩ := r'
        obtain ⟨q', k1, _, o, ws, k3, k4, k5⟩ := R'.obj b _ hb
        rw [hq] at k1; cases k1
        exact ⟨q, o, rfl, .inr ⟨ws, k3, p g' H' _ st' R' (itOk_keysT hq k3)⟩⟩
      | none =>
        simp only [h2] at p
        have lst : Post X.K W g H σ (fun g H im J => ItOk X.K g H J im) (lstIt x s') Q → TI' X.K W (lstItM ma) σ H Q := fun q => ⟨g, t, env, R, E, by show Post _ _ _ _ _ _ (bd (ma env t) lstIt) Q; rw [hm]; exact q⟩
        have tup : Post X.K W g H σ (fun g H im J => ItOk X.K g H J im) (tupIt x s') Q → TI' X.K W (tupItM ma) σ H Q := fun q => ⟨g, t, env, R, E, by show Post _ _ _ _ _ _ (bd (ma env t) tupIt) Q; rw [hm]; exact q⟩
        cases x with
        | tup ds => exact .inr (.inr (.inr (tup p)))
        | ct ds => exact .inr (.inr (.inr (tup p)))
        | str z =>
          refine .inl ⟨g, t, env, R, E, ?_⟩
          rw [hm]
          intro g' H' v st' R' r'
          cases r'
          exact ⟨z, rfl, p g' H' _ st' R' itOk_sig⟩
        | _ => exact .inr (.inr (.inl (lst p)))
theorem lk_pi {f : D → S → R Itm} {J : Addr → Obj → List (Key × V) → It} {K : Frag} {g : Gh} {s : S} {H : Hp} {σ : L2.St} {Q : It → Hp → Prop} {env : Env}
    {im : Nat → List (Key × D) → Itm} (hf : ∀ x s, f x s = match lkOf x s with
      | some (a, kvs) => .ok (im a kvs) s
      | none => .bad) (hit : ∀ {g : Gh} {H : Hp} {a : Nat} {p : Addr} {o : Obj} {kvs : List (Key × D)} {ws : List (Key × V)}, g.mu a = some p → H p = some (.frz o (.dK ws)) → ItOk K g H (J p o ws) (im a kvs))
    (p : Post K W g H σ (fun g H im J => ItOk K g H J im) (bd (ma env s) f) Q) : Post K W g H σ (RD K) (ma env s) (fun x H1 => ∃ d o kvs, x = .ref d ∧ H1 d = some (.frz o (.dK kvs)) ∧ Q (J d o kvs) H1) := by
  cases hm : ma env s with
  | exc c fs s' => rw [hm] at p; exact p
  | bad => rw [hm] at p; exact p.elim
  | ok x s' =>
    rw [hm] at p
    replace p : Post K W g H σ (fun g H im J => ItOk K g H J im) (f x s') Q := p
    rw [hf] at p
    cases h1 : lkOf x s' with
    | none => rw [h1] at p; exact p.elim
    | some q =>
      obtain ⟨b, kvs⟩ := q
      simp only [h1] at p
      obtain ⟨rfl, hb⟩ := lkOf_is h1
      intro g' H' v st' R' r'
      obtain ⟨q, rfl, hq⟩ := r'
      obtain ⟨q', k1, _, o, ws, k3, k4, k5⟩ := R'.obj b _ hb
      rw [hq] at k1; cases k1
      exact ⟨q, o, ws, rfl, k3, p g' H' _ st' R' (hit hq k3)⟩
theorem pi_vals' {e : Expr} {apos cpos : Pos} (he : PX X W e ma) (hbase : attributeBase e "values" X.env (eval e X.env) = eval e X.env) (hline : (apos.endLine == cpos.line) = true) : PIX X W tg (.Call (.Attribute e "values" apos) [] [] cpos) (valItM ma) :=
  PI.imp (pi_values he hbase hline) fun σ H Q ⟨g, t, env, R, E, p⟩ => ⟨g, t, env, R, E, lk_pi (f := valIt) (J := Itd) (im := fun a kvs => (kvs.map (·.2), some (a, .lk kvs))) (fun x s => rfl) (fun h1 h2 => itOk_vals h1 h2) p⟩
theorem pi_keysM' {e : Expr} {apos cpos : Pos} (he : PX X W e ma) (hbase : attributeBase e "keys" X.env (eval e X.env) = eval e X.env) (hline : (apos.endLine == cpos.line) = true) : PIX X W tg (.Call (.Attribute e "keys" apos) [] [] cpos) (keyItM ma) :=
  PI.imp (pi_keysM he hbase hline) fun σ H Q ⟨g, t, env, R, E, p⟩ => ⟨g, t, env, R, E, lk_pi (f := keyIt) (J := Itk) (im := fun a kvs => (keysD kvs, some (a, .lk kvs))) (fun x s => rfl) (fun h1 h2 => itOk_keys h1 h2) p⟩
theorem pi_items' {e : Expr} {apos cpos : Pos} {elts : List Expr} {kk : Nat} {tpos : Pos} (he : PX X W e ma) (hbase : attributeBase e "items" X.env (eval e X.env) = eval e X.env) (hline : (apos.endLine == cpos.line) = true) : PIX X W (.Tuple elts kk tpos) (.Call (.Attribute e "items" apos) [] [] cpos) (iteItM ma) :=
  PI.imp (L2.pi_items he hbase hline) fun σ H Q ⟨g, t, env, R, E, p⟩ => ⟨g, t, env, R, E, lk_pi (f := iteIt) (J := Iti) (im := fun a kvs => (kvs.map fun kv => D.tup [dOfKey kv.1, kv.2], some (a, .lk kvs))) (fun x s => rfl) (fun h1 h2 => itOk_items h1 h2) p⟩
end
end Co
namespace Co
open PySem PySem.Spec PyProof.Rows L2
/-! ### dict comprehensions -/
open Classical in
noncomputable def dcL (t : Tg) (gd : Option (Nat × Ob)) (own : List Nat) (tst : ME Bool) (ek ev : ME D) (env : Env) : List D → List (Key × D) → S → R (List (Key × D))
  | [], acc, s => if GdOk gd s then .ok acc s else .bad
  | d :: ds, acc, s => if GdOk gd s then (match asg t d s (wipeE env own) with
    | none => .bad
    | some env1 => bd (nox (tst env1 s)) fun k s1 => if k then bd (nox (ek env1 s1)) fun y s2 => bd (nox (ev env1 s2)) fun z s3 => (match keyOf y with
        | some key => if acc.length < LINE then dcL t gd own tst ek ev env ds (putD acc key z) s3 else .bad
        | none => .bad) else dcL t gd own tst ek ev env ds acc s1) else .bad
noncomputable def dcM (m : Bool) (t : Tg) (it : ME Itm) (own : List Nat) (tst : ME Bool) (ek ev : ME D) : ME D := fun env s => bd (it env s) fun im s1 => bd (dcL t im.2 own tst ek ev env im.1 [] s1) fun kvs s2 => mkD m kvs s2
section
variable {X : Cx} {W : WX} {tg iter kx vx : Expr} {ifs : List Expr} {scope : Scope} {own : List (Str × Nat)} {pos : Pos} {t : Tg} {it : ME Itm} {tst : ME Bool} {ek ev : ME D}
theorem dc_reads {m : Bool} (hsl : ∀ i ∈ slots t, i ∈ own.map (·.2)) (σ : L2.St) (H : Hp) (Q : VK) (h : TE' X.K W (dcM m t it (own.map (·.2)) tst ek ev) σ H Q) :
    tDc (TI' X.K W it) (gtOf X.K t) (TT' X.K W0 tst) (TE' X.K W0 ek) (TE' X.K W0 ev) (own.map (·.2)) σ H Q := by
  refine (TX.bind (rel := fun g H im J => ItOk X.K g H J im) h).imp fun J H0 ⟨g0, im, s0, env, R0, E0, hit, p0⟩ => ?_
  intro Dp hDp
  refine ⟨fun i m' H => m' = im.1.length - i ∧ i ≤ im.1.length ∧ ∃ g s acc ws, Stp g0 H0 g H ∧ Rel X.K g s H ∧ Own g s H Dp ∧ H Dp = some (.dK ws) ∧ ws.map (·.1) = acc.map (·.1) ∧ RDs X.K g H (acc.map (·.2)) (ws.map (·.2)) ∧
      Post X.K W g H σ (RD X.K) (bd (dcL t im.2 (own.map (·.2)) tst ek ev env (im.1.drop i) acc s) fun ds s2 => mkD m ds s2) Q,
    ⟨im.1.length, by simp, Nat.zero_le _, g0, s0, [], [], stp_new R0 hDp, R0.new hDp, own_new R0 hDp, upd_same, rfl, .nil, Post.later (stp_new R0 hDp) p0⟩, fun i m' H h => ?_⟩
  obtain ⟨rfl, hi, g, s, acc, ws, st, R, O, hD, kk, ra, p⟩ := h
  by_cases hlt : i < im.1.length
  · have hd : im.1.drop i = im.1[i] :: im.1.drop (i + 1) := List.drop_eq_getElem_cons hlt
    rw [hd] at p
    unfold dcL at p
    by_cases hgd : GdOk im.2 s
    · rw [if_pos hgd] at p
      have RP := R.prot O
      have stP := st.trans (stp_prot (g := g) (H := H) (p := Dp))
      obtain ⟨_, hit'⟩ := hit (g.prot Dp) H s stP RP hgd
      obtain ⟨go, yld⟩ := hit' i im.1[i] (List.getElem?_eq_getElem hlt)
      refine .inr ⟨go, fun H' => ∃ m', m' < im.1.length - i ∧ m' = im.1.length - (i + 1) ∧ i + 1 ≤ im.1.length ∧ ∃ g s acc ws, Stp g0 H0 g H' ∧ Rel X.K g s H' ∧ Own g s H' Dp ∧ H' Dp = some (.dK ws) ∧ ws.map (·.1) = acc.map (·.1) ∧ RDs X.K g H' (acc.map (·.2)) (ws.map (·.2)) ∧
        Post X.K W g H' σ (RD X.K) (bd (dcL t im.2 (own.map (·.2)) tst ek ev env (im.1.drop (i + 1)) acc s) fun ds s2 => mkD m ds s2) Q, fun H' h => h, fun x H2 y => ?_⟩
      obtain ⟨g2, st2, R2, r2⟩ := yld x H2 y
      cases ea : asg t im.1[i] s (wipeE env (own.map (·.2))) with
      | none => simp only [ea] at p; exact p.elim
      | some env1 =>
        simp only [ea] at p
        have Ew : RE X.K g2 H2 (wipeE env (own.map (·.2))) (wipe σ (own.map (·.2))) := ((E0.mono stP.toStp0).mono st2.toStp0).wipe _
        refine tg_ok R2 Ew r2 ea fun σ1 E1 b1 => ⟨wipe_but b1 hsl, ?_⟩
        have fin : ∀ {g3 : Gh} {s3 : S} {H3 : Hp}, Stp (g.prot Dp) H g3 H3 → Rel X.K g3 s3 H3 → Post X.K W g H σ (RD X.K) (bd (dcL t im.2 (own.map (·.2)) tst ek ev env (im.1.drop (i + 1)) acc s3) fun ds s2 => mkD m ds s2) Q →
            ∃ m', m' < im.1.length - i ∧ m' = im.1.length - (i + 1) ∧ i + 1 ≤ im.1.length ∧ ∃ g s acc ws, Stp g0 H0 g H3 ∧ Rel X.K g s H3 ∧ Own g s H3 Dp ∧ H3 Dp = some (.dK ws) ∧ ws.map (·.1) = acc.map (·.1) ∧ RDs X.K g H3 (acc.map (·.2)) (ws.map (·.2)) ∧
              Post X.K W g H3 σ (RD X.K) (bd (dcL t im.2 (own.map (·.2)) tst ek ev env (im.1.drop (i + 1)) acc s) fun ds s2 => mkD m ds s2) Q := by
          intro g3 s3 H3 st3 R3 p3
          obtain ⟨k1, k2, k3, k4, k5⟩ := turn_end (ob := .dK ws) st3 R3 O (fun xs e => by rw [hD] at e; cases e) (fun o u e => by rw [hD] at e; cases e)
          have eU : upd H3 Dp (.dK ws) = H3 := by
            funext q
            by_cases hq : q = Dp
            · rw [hq, upd_same, k1, hD]
            · exact upd_ne hq
          rw [eU] at k2 k3 k4 k5
          exact ⟨_, by omega, rfl, hlt, _, s3, acc, ws, st.trans k2, k3, k4, k1.trans hD, kk, RDs.mono k2.toStp0 _ _ ra, Post.later k2 p3⟩
        rw [bd_assoc] at p
        have pt : Post X.K W0 g2 H2 σ1 Eqr (tst env1 s) _ := Post.nox_of (σ' := σ1) (Post.bind (rel := Eqr) (Post.later (stp_prot.trans st2) p))
        refine TX.mk R2 E1 (pt.imp fun k H3 ⟨g3, k', s3, st3, R3, ek0, en0, p3⟩ => ?_)
        cases ek0
        rw [en0] at p
        have sA := st2.trans st3
        cases k with
        | false =>
          simp only [Bool.false_eq_true, if_false] at p3 ⊢
          exact fin sA R3 p
        | true =>
          have p3g : Post X.K W g H σ (RD X.K) (bd (bd (nox (ek env1 s3)) fun y s4 => bd (nox (ev env1 s4)) fun z s5 => match keyOf y with
            | some key => if acc.length < LINE then dcL t im.2 (own.map (·.2)) tst ek ev env (im.1.drop (i + 1)) (putD acc key z) s5 else .bad
            | none => .bad) fun ds s2 => mkD m ds s2) Q := p
          have p3' := Post.later (stp_prot.trans sA) p3g
          simp only [if_true] at p3 ⊢
          rw [bd_assoc] at p3' p3g
          have pe : Post X.K W0 g3 H3 σ1 (RD X.K) (ek env1 s3) _ := Post.nox_of (σ' := σ1) (Post.bind (rel := RD X.K) p3')
          refine TX.mk R3 (E1.mono st3.toStp0) (pe.imp fun yv H4 ⟨g4, y', s4, st4, R4, ry, en, p4⟩ => ?_)
          rw [en] at p3g
          have sB := sA.trans st4
          have p4g : Post X.K W g H σ (RD X.K) (bd (bd (nox (ev env1 s4)) fun z s5 => match keyOf y' with
            | some key => if acc.length < LINE then dcL t im.2 (own.map (·.2)) tst ek ev env (im.1.drop (i + 1)) (putD acc key z) s5 else .bad
            | none => .bad) fun ds s2 => mkD m ds s2) Q := p3g
          have p4' := Post.later (stp_prot.trans sB) p4g
          rw [bd_assoc] at p4' p4g
          have pv : Post X.K W0 g4 H4 σ1 (RD X.K) (ev env1 s4) _ := Post.nox_of (σ' := σ1) (Post.bind (rel := RD X.K) p4')
          refine TX.mk R4 ((E1.mono st3.toStp0).mono st4.toStp0) (pv.imp fun zv H5 ⟨g5, z', s5, st5, R5, rz, en5, p5⟩ => ?_)
          rw [en5] at p4g
          have sC := sB.trans st5
          have p5g : Post X.K W g H σ (RD X.K) (bd (match keyOf y' with
            | some key => if acc.length < LINE then dcL t im.2 (own.map (·.2)) tst ek ev env (im.1.drop (i + 1)) (putD acc key z') s5 else .bad
            | none => .bad) fun ds s2 => mkD m ds s2) Q := p4g
          cases hk : keyOf y' with
          | none => simp only [hk] at p5g; exact p5g.elim
          | some key =>
            simp only [hk] at p5g
            have eyv : yv = kV key := keyOf_ok ry hk
            by_cases hl : acc.length < LINE
            · rw [if_pos hl] at p5g
              have hlw : ws.length = acc.length := by simpa using congrArg List.length kk
              obtain ⟨k1, k2, k3, k4, k5⟩ := turn_end (ob := .dK (putK ws key zv)) sC R5 O (fun xs e => by rw [hD] at e; cases e) (fun o u e => by rw [hD] at e; cases e)
              obtain ⟨q1, q2⟩ := putK_rel key (RD.mono k5 _ _ rz) kk (RDs.mono k2.toStp0 _ _ ra)
              exact ⟨ws, key, eyv, k1.trans hD, by rw [hlw]; exact hl, _, by omega, rfl, hlt, _, s5, putD acc key z', putK ws key zv, st.trans k2, k3, k4, upd_same, q1, q2, Post.later k2 p5g⟩
            · rw [if_neg hl] at p5g; exact p5g.elim
    · rw [if_neg hgd] at p; exact p.elim
  · have ei : i = im.1.length := by omega
    have hd : im.1.drop i = [] := by rw [ei]; exact List.drop_length
    rw [hd] at p
    unfold dcL at p
    by_cases hgd : GdOk im.2 s
    · rw [if_pos hgd] at p
      obtain ⟨hst, _⟩ := hit g H s st R hgd
      exact .inl ⟨by rw [ei]; exact hst, own_mkD R O hD kk ra p⟩
    · rw [if_neg hgd] at p; exact p.elim
theorem px_dc {m : Bool} (hc : X.calm = true) (hN : X.N.Nodup) (ok : BlkOk X.N X.env.scope scope own) (hsl : ∀ i ∈ slots t, i ∈ own.map (·.2)) (hs : ∀ x, foldedSetIterable iter X.env x = pure x) (hi : PIX X W tg iter it)
    (hg : ∀ (s : Shared) (H : Hp) (C : Addr) (cl : List (Str × Addr)) (fp : List Addr), PGX (X.blk s H scope (compEnvC scope cl C X.env) fp) tg t) (ht : ∀ (s : Shared) (H : Hp) (C : Addr) (cl : List (Str × Addr)) (fp : List Addr), PTX (X.blk s H scope (compEnvC scope cl C X.env) fp) ifs tst)
    (hk : ∀ (s : Shared) (H : Hp) (C : Addr) (cl : List (Str × Addr)) (fp : List Addr), PX (X.blk s H scope (compEnvC scope cl C X.env) fp) W0 kx ek)
    (he : ∀ (s : Shared) (H : Hp) (C : Addr) (cl : List (Str × Addr)) (fp : List Addr), PX (X.blk s H scope (compEnvC scope cl C X.env) fp) W0 vx ev) : PX X W (.DictComp kx vx [⟨tg, iter, ifs, 0⟩] scope pos) (dcM m t it (own.map (·.2)) tst ek ev) :=
  PE.imp (pe_dc (wi := TI' X.K W it) (g := gtOf X.K t) (tt := TT' X.K W0 tst) (tk := TE' X.K W0 ek) (tv := TE' X.K W0 ev) hc hN hi ok hg ht hk he hs) (dc_reads hsl)
end
end Co
namespace Co
open PySem PySem.Spec PyProof.Rows L2
/-! ### methods of lists and dicts -/
theorem PE.or {X : Cx} {e : Expr} {t t' : TE} (h : PE X e t) (h' : PE X e t') : PE X e (fun σ H Q => t σ H Q ∨ t' σ H Q) := ⟨fun pins s σ H Q I q => q.elim (h.run pins s σ H Q I) (h'.run pins s σ H Q I)⟩
/-- the receiver's value decides -/
theorem TE_or {K : Frag} {W : WX} {σ : L2.St} {H : Hp} {Q : VK} {mo : ME D} {k1 k2 : Env → D → S → R D} {c : D → S → Bool} (h : TE' K W (fun env s => bd (mo env s) fun x s1 => if c x s1 = true then k1 env x s1 else k2 env x s1) σ H Q) :
    TE' K W (fun env s => bd (mo env s) (k1 env)) σ H Q ∨ TE' K W (fun env s => bd (mo env s) (k2 env)) σ H Q := by
  obtain ⟨g, t, env, R, E, p⟩ := h
  have p : Post K W g H σ (RD K) (bd (mo env t) fun x s1 => if c x s1 = true then k1 env x s1 else k2 env x s1) Q := p
  cases hm : mo env t with
  | exc cl fs s' =>
    rw [hm] at p
    exact .inl ⟨g, t, env, R, E, by show Post _ _ _ _ _ _ (bd (mo env t) (k1 env)) Q; rw [hm]; exact p⟩
  | bad => rw [hm] at p; exact p.elim
  | ok x s' =>
    rw [hm] at p
    replace p : Post K W g H σ (RD K) (if c x s' = true then k1 env x s' else k2 env x s') Q := p
    by_cases hc : c x s' = true
    · rw [if_pos hc] at p
      exact .inl ⟨g, t, env, R, E, by show Post _ _ _ _ _ _ (bd (mo env t) (k1 env)) Q; rw [hm]; exact p⟩
    · rw [if_neg hc] at p
      exact .inr ⟨g, t, env, R, E, by show Post _ _ _ _ _ _ (bd (mo env t) (k2 env)) Q; rw [hm]; exact p⟩
/-- the reading r of a method asks what f brings -/
def OpMt (K : Frag) (r : V → List V → Hp → VK → Prop) (f : D → List D → S → R D) : Prop := ∀ (W : WX) (g : Gh) (s : S) (H : Hp) (σ : L2.St) (x : D) (ds : List D) (v : V) (vs : List V) (Q : VK), Rel K g s H → RD K g H x v → RDs K g H ds vs → Post K W g H σ (RD K) (f x ds s) Q → r v vs H Q
/-- what the receiver must be -/
def OpTy (K : Frag) (T : String) (c : D → S → Bool) : Prop := ∀ (g : Gh) (s : S) (H : Hp) (x : D) (v : V), Rel K g s H → RD K g H x v → c x s = true → tyV K T v H
def mthM (c : D → S → Bool) (f : D → List D → S → R D) (mo : ME D) (mes : ME (List D)) : ME D := fun env s => bd (mo env s) fun x s1 => if c x s1 = true then bd (mes env s1) fun ds s2 => f x ds s2 else .bad
section
variable {X : Cx} {W : WX} {o e : Expr} {es : List Expr} {apos cpos : Pos} {mo : ME D} {mes : ME (List D)} {name : Str} {T id : String} {r : V → List V → Hp → VK → Prop} {f : D → List D → S → R D} {c : D → S → Bool}
theorem px_mt0 (pa : PlainAttrs T) (slot : Slot T name id) (hty : typeOf (.builtin id) = pure (.type "method_descriptor")) (hm : MtR X id r) (hf : OpMt X.K r f) (hc : OpTy X.K T c) (ho : PX X W o mo)
    (hbase : attributeBase o name X.env (eval o X.env) = eval o X.env) (hline : (apos.endLine == cpos.line) = true) : PX X W (.Call (.Attribute o name apos) [] [] cpos) (mthM c f mo nilM) := by
  refine PE.imp (pe_bm0 pa slot hty hm ho hbase hline) fun σ H Q h => (TX.bind (rel := RD X.K) h).imp fun v H1 ⟨g1, x, s1, env, R1, E1, r1, p1⟩ => ?_
  by_cases hx : c x s1 = true
  · rw [if_pos hx] at p1
    exact ⟨hc g1 s1 H1 x v R1 r1 hx, hf W g1 s1 H1 σ x [] v [] Q R1 r1 .nil p1⟩
  · rw [if_neg hx] at p1; exact p1.elim
theorem px_mt (pa : PlainAttrs T) (slot : Slot T name id) (hty : typeOf (.builtin id) = pure (.type "method_descriptor")) (hm : MtR X id r) (hf : OpMt X.K r f) (hc : OpTy X.K T c) (ho : PX X W o mo) (ha : PL X W (e :: es) mes)
    (hbase : attributeBase o name X.env (eval o X.env) = eval o X.env)
    (hfew : ((backTo cpos (starEach (e :: es) X.env)).all (fun x => !x.1) && (backToKw cpos (keywordEach [] X.env)).all (fun x => x.1.isSome)
      && decide ((e :: es).length + ([] : List Keyword).length + (if ([] : List Keyword).isEmpty then 0 else 1) < 30)) = true)
    (hline : (apos.endLine == cpos.line) = true) (hs : starEach (e :: es) X.env = (false, eval e X.env) :: starEach es X.env) (hplain : (backTo cpos (starEach es X.env)).any (·.1) = false) :
    PX X W (.Call (.Attribute o name apos) (e :: es) [] cpos) (mthM c f mo mes) := by
  refine PE.imp (pe_bm pa slot hty hm ho ha hbase hfew hline hs hplain) fun σ H Q h => (TX.bind (rel := RD X.K) h).imp fun v H1 ⟨g1, x, s1, env, R1, E1, r1, p1⟩ => ?_
  by_cases hx : c x s1 = true
  · rw [if_pos hx] at p1
    refine ⟨hc g1 s1 H1 x v R1 r1 hx, TX.mk R1 E1 ((Post.bind (rel := RDs X.K) p1).imp fun vs H2 ⟨g2, ds, s2, st, R2, r2, _, p2⟩ => ?_)⟩
    exact hf W g2 s2 H2 σ x ds v vs Q R2 (RD.mono st.toStp0 _ _ r1) r2 p2
  · rw [if_neg hx] at p1; exact p1.elim
end
/-! ### lists -/
def isLst (x : D) (s : S) : Bool := (lstOf x s).isSome
theorem ty_lst {K : Frag} : OpTy K "list" isLst := by
  intro g s H x v R r h
  obtain ⟨ds, e⟩ := Option.isSome_iff_exists.mp h
  obtain ⟨p, vs, rfl, e2, e3⟩ := lst_ok R r e
  exact .inl ⟨rfl, vs, e2⟩
/-- a list of the heap -/
def hlOf (x : D) (s : S) : Option (Nat × List D) := match x with
  | .ref a => match s.heap a with
    | some (.lst ds) => some (a, ds)
    | _ => none
  | _ => none
theorem hl_is {x : D} {s : S} {a : Nat} {ds : List D} (h : hlOf x s = some (a, ds)) : x = .ref a ∧ s.heap a = some (.lst ds) := by
  unfold hlOf at h
  split at h
  · split at h
    · rename_i h'; cases h; exact ⟨rfl, h'⟩
    · cases h
  · cases h
section
variable {K : Frag} {g : Gh} {s : S} {H : Hp} {a : Nat} {p : Addr} {ds : List D}
/-- a list of the heap is rewritten -/
theorem hl_put (R : Rel K g s H) (ha : s.heap a = some (.lst ds)) (hm : g.mu a = some p) {es : List D} {ws : List V} (r : RDs K g H es ws) : Stp g H g (upd H p (.lst ws)) ∧ Rel K g (s.upd a (.lst es)) (upd H p (.lst ws)) := by
  have F := R.freeAt ha rfl hm
  have st := stp_free (o := .lst ws) F.1 F.2
  exact ⟨st, R.upd ha rfl hm ⟨ws, upd_same, RDs.mono st.toStp0 _ _ r⟩⟩
theorem hl_at (R : Rel K g s H) (ha : s.heap a = some (.lst ds)) (hm : g.mu a = some p) : ∃ vs, H p = some (.lst vs) ∧ RDs K g H ds vs := by
  obtain ⟨q, h1, _, vs, h3, h4⟩ := R.obj a _ ha
  rw [hm] at h1; cases h1
  exact ⟨vs, h3, h4⟩
end
def appF (x : D) (ds : List D) (s : S) : R D := match hlOf x s, ds with
  | some (a, xs), [y] => if xs.length < LINE then .ok .non (s.upd a (.lst (xs ++ [y]))) else .bad
  | _, _ => .bad
theorem opm_app {K : Frag} : OpMt K rAppend appF := by
  intro W g s H σ x ds v vs Q R rx rs h
  unfold appF at h
  split at h
  · rename_i a xs y e
    obtain ⟨rfl, ha⟩ := hl_is e
    obtain ⟨p, rfl, hm⟩ := rx
    obtain ⟨us, h3, h4⟩ := hl_at R ha hm
    obtain ⟨w, rfl, rw'⟩ := one_of rs rfl
    by_cases hl : xs.length < LINE
    · rw [if_pos hl] at h
      obtain ⟨st, R'⟩ := hl_put R ha hm (h4.append (.cons rw' .nil))
      exact ⟨p, us, w, rfl, rfl, h3, by rw [← h4.length]; exact hl, h g _ .non st R' rfl⟩
    · rw [if_neg hl] at h; exact h.elim
  · exact h.elim
def extF (x : D) (ds : List D) (s : S) : R D := match hlOf x s, ds with
  | some (a, xs), [d] => match trkOf d s with
    | some ys => if xs.length + ys.length ≤ LINE then .ok .non (s.upd a (.lst (xs ++ ys))) else .bad
    | none => .bad
  | _, _ => .bad
theorem opm_ext {K : Frag} : OpMt K rExtend extF := by
  intro W g s H σ x ds v vs Q R rx rs h
  unfold extF at h
  split at h
  · rename_i a xs d e
    obtain ⟨rfl, ha⟩ := hl_is e
    obtain ⟨p, rfl, hm⟩ := rx
    obtain ⟨us, h3, h4⟩ := hl_at R ha hm
    obtain ⟨w, rfl, rw'⟩ := one_of rs rfl
    cases et : trkOf d s with
    | none => simp only [et] at h; exact h.elim
    | some ys =>
      simp only [et] at h
      obtain ⟨q, zs, rfl, f2, f3⟩ := trk_ok R rw' et
      by_cases hl : xs.length + ys.length ≤ LINE
      · rw [if_pos hl] at h
        obtain ⟨st, R'⟩ := hl_put R ha hm (h4.append f3)
        exact ⟨p, q, us, zs, rfl, rfl, h3, f2, by rw [← h4.length, ← f3.length]; exact hl, h g _ .non st R' rfl⟩
      · rw [if_neg hl] at h; exact h.elim
  · exact h.elim
def pop0F (x : D) (ds : List D) (s : S) : R D := match hlOf x s, ds with
  | some (a, xs), [] => match xs[xs.length - 1]? with
    | some y => .ok y (s.upd a (.lst xs.dropLast))
    | none => .bad
  | _, _ => .bad
theorem rds_dropLast {K : Frag} {g : Gh} {H : Hp} {ds : List D} {vs : List V} (r : RDs K g H ds vs) : RDs K g H ds.dropLast vs.dropLast := by
  rw [List.dropLast_eq_take, List.dropLast_eq_take, r.length]
  exact r.take _
theorem opm_pop0 {K : Frag} : OpMt K rPop pop0F := by
  intro W g s H σ x ds v vs Q R rx rs h
  unfold pop0F at h
  split at h
  · rename_i a xs e
    obtain ⟨rfl, ha⟩ := hl_is e
    obtain ⟨p, rfl, hm⟩ := rx
    obtain ⟨us, h3, h4⟩ := hl_at R ha hm
    cases rs
    cases ey : xs[xs.length - 1]? with
    | none => simp only [ey] at h; exact h.elim
    | some y =>
      simp only [ey] at h
      obtain ⟨w, hw, rw'⟩ := h4.get ey
      obtain ⟨st, R'⟩ := hl_put R ha hm (rds_dropLast h4)
      exact ⟨p, us, w, rfl, rfl, h3, by rw [← h4.length]; exact hw, h g _ w st R' (RD.mono st.toStp0 _ _ rw')⟩
  · exact h.elim
def Ix63 (i : Int) : Prop := -(2 ^ 63) ≤ i ∧ i < 2 ^ 63
def Ins63 (n : Nat) (i : Int) : Prop := n < LINE ∧ 0 ≤ i ∧ i < 2 ^ 63
noncomputable instance (j : Int) : Decidable (Ix63 j) := Classical.propDecidable _
noncomputable instance (n : Nat) (j : Int) : Decidable (Ins63 n j) := Classical.propDecidable _
noncomputable def pop1F (x : D) (ds : List D) (s : S) : R D := match hlOf x s, ds with
  | some (a, xs), [.int i] => if Ix63 i then match seqIndex? i xs.length with
    | some k => match xs[k]? with
      | some y => .ok y (s.upd a (.lst (xs.eraseIdx k)))
      | none => .bad
    | none => .bad else .bad
  | _, _ => .bad
theorem opm_pop1 {K : Frag} : OpMt K rPopAt pop1F := by
  intro W g s H σ x ds v vs Q R rx rs h
  unfold pop1F at h
  split at h
  · rename_i a xs i e
    obtain ⟨rfl, ha⟩ := hl_is e
    obtain ⟨p, rfl, hm⟩ := rx
    obtain ⟨us, h3, h4⟩ := hl_at R ha hm
    obtain ⟨w, rfl, rw'⟩ := one_of rs rfl
    cases rw'
    by_cases hi : Ix63 i
    · rw [if_pos hi] at h
      cases ek : seqIndex? i xs.length with
      | none => simp only [ek] at h; exact h.elim
      | some k =>
        simp only [ek] at h
        cases ey : xs[k]? with
        | none => simp only [ey] at h; exact h.elim
        | some y =>
          simp only [ey] at h
          obtain ⟨w, hw, rw'⟩ := h4.get ey
          obtain ⟨st, R'⟩ := hl_put R ha hm (RDs.eraseIdx k h4)
          exact ⟨p, us, i, k, w, rfl, rfl, h3, hi.1, hi.2, by rw [← h4.length]; exact ek, hw, h g _ w st R' (RD.mono st.toStp0 _ _ rw')⟩
    · rw [if_neg hi] at h; exact h.elim
  · exact h.elim
noncomputable def insF (x : D) (ds : List D) (s : S) : R D := match hlOf x s, ds with
  | some (a, xs), [.int i, y] => if Ins63 xs.length i then .ok .non (s.upd a (.lst (xs.take i.toNat ++ [y] ++ xs.drop i.toNat))) else .bad
  | _, _ => .bad
def rInsert : V → List V → Hp → VK → Prop := fun x vs H Q => ∃ (l : Addr) (xs : List V) (i : Int) (y : V), x = .ref l ∧ vs = [.int i, y] ∧ H l = some (.lst xs) ∧ xs.length < sizeLine ∧ 0 ≤ i ∧ i < 2 ^ 63 ∧
    Q .non (upd H l (.lst (xs.take i.toNat ++ [y] ++ xs.drop i.toNat)))
theorem opm_ins {K : Frag} : OpMt K rInsert insF := by
  intro W g s H σ x ds v vs Q R rx rs h
  unfold insF at h
  split at h
  · rename_i a xs i y e
    obtain ⟨rfl, ha⟩ := hl_is e
    obtain ⟨p, rfl, hm⟩ := rx
    obtain ⟨us, h3, h4⟩ := hl_at R ha hm
    obtain ⟨w, w2, rfl, rw', rw2⟩ := two_of rs rfl
    cases rw'
    by_cases hi : Ins63 xs.length i
    · rw [if_pos hi] at h
      obtain ⟨st, R'⟩ := hl_put R ha hm (((h4.take i.toNat).append (.cons rw2 .nil)).append (h4.drop i.toNat))
      exact ⟨p, us, i, w2, rfl, rfl, h3, by rw [← h4.length]; exact hi.1, hi.2.1, hi.2.2, h g _ .non st R' rfl⟩
    · rw [if_neg hi] at h; exact h.elim
  · exact h.elim
def idxF (x : D) (ds : List D) (s : S) : R D := match lstOf x s, ds with
  | some xs, [y] => if flatD y = true ∧ xs.all flatD = true then (match xs.findIdx? fun z => eqFl z y with
    | some j => .ok (.int (j : Nat)) s
    | none => .bad) else .bad
  | _, _ => .bad
theorem opm_idx {K : Frag} : OpMt K (rIndex K) idxF := by
  intro W g s H σ x ds v vs Q R rx rs h
  unfold idxF at h
  split at h
  · rename_i xs y e
    obtain ⟨p, us, rfl, e2, e3⟩ := lst_ok R rx e
    obtain ⟨w, rfl, rw'⟩ := one_of rs rfl
    by_cases hf : flatD y = true ∧ xs.all flatD = true
    · rw [if_pos hf] at h
      cases ej : xs.findIdx? fun z => eqFl z y with
      | none => simp only [ej] at h; exact h.elim
      | some j =>
        simp only [ej] at h
        obtain ⟨hj, h1, h2⟩ := List.findIdx?_eq_some_iff_getElem.mp ej
        obtain ⟨z, hz, rz⟩ := e3.get (List.getElem?_eq_getElem hj)
        have fz : flatD xs[j] = true := List.all_eq_true.mp hf.2 _ (List.getElem_mem hj)
        refine ⟨p, us, w, j, z, rfl, rfl, e2, flat_ok rw' hf.1, flats_ok e3 hf.2, hz, by rw [eqFl_ok rz rw' fz hf.1]; exact h1, fun m z' hm hz' => ?_, post_ok (d := .int (j : Nat)) R rfl h⟩
        have hml : m < xs.length := by omega
        obtain ⟨z2, hz2, rz2⟩ := e3.get (List.getElem?_eq_getElem hml)
        rw [hz'] at hz2
        cases hz2
        have fz2 : flatD xs[m] = true := List.all_eq_true.mp hf.2 _ (List.getElem_mem hml)
        rw [eqFl_ok rz2 rw' fz2 hf.1]
        have := h2 m hm
        simpa using this
    · rw [if_neg hf] at h; exact h.elim
  · exact h.elim
/-! ### dicts -/
def isDic (x : D) (s : S) : Bool := (dicOf x s).isSome || (dicT x s).isSome
theorem isD_of {K : Frag} {g : Gh} {s : S} {H : Hp} {x : D} {v : V} (R : Rel K g s H) (r : RD K g H x v) (h : isDic x s = true) : ∃ p, v = .ref p ∧ IsD H p := by
  unfold isDic at h
  rw [Bool.or_eq_true] at h
  rcases h with h | h
  · obtain ⟨kvs, e⟩ := Option.isSome_iff_exists.mp h
    obtain ⟨p, ws, rfl, e2, _⟩ := dic_ok R r e
    exact ⟨p, rfl, .inl ⟨ws, e2⟩⟩
  · obtain ⟨kvs, e⟩ := Option.isSome_iff_exists.mp h
    obtain ⟨p, ws, rfl, e2, _⟩ := dicT_ok R r e
    exact ⟨p, rfl, .inr ⟨ws, e2⟩⟩
def get2M (mo mk mx : ME D) : ME D := fun env s => bd (mo env s) fun x s1 => if isDic x s1 = true then bd (mk env s1) fun y s2 => bd (mx env s2) fun z s3 => match dget x y s3 with
  | some o => .ok (o.getD z) s3
  | none => .bad else .bad
def get1M (mo mk : ME D) : ME D := fun env s => bd (mo env s) fun x s1 => if isDic x s1 = true then bd (mk env s1) fun y s2 => match dget x y s2 with
  | some o => .ok (o.getD .non) s2
  | none => .bad else .bad
section
variable {X : Cx} {W : WX} {o e f : Expr} {apos cpos : Pos} {mo mk mx : ME D}
theorem px_get2 (hu : X.A.units + 1 < cLine) (ho : PX X W o mo) (he : PX X W e mk) (hf : PX X W f mx) (m : M2 X o "get" apos e f cpos) : PX X W (.Call (.Attribute o "get" apos) [e, f] [] cpos) (get2M mo mk mx) := by
  refine PE.imp (pe_dget2 hu ho he hf m) fun σ H Q h => (TX.bind (rel := RD X.K) h).imp fun v H1 ⟨g1, x, s1, env, R1, E1, r1, p1⟩ => ?_
  by_cases hx : isDic x s1 = true
  · rw [if_pos hx] at p1
    obtain ⟨p, rfl, hd⟩ := isD_of R1 r1 hx
    refine ⟨p, rfl, hd, TX.mk R1 E1 ((Post.bind (rel := RD X.K) p1).imp fun y H2 ⟨g2, dy, s2, st2, R2, r2, _, p2⟩ => ?_)⟩
    refine TX.mk R2 (E1.mono st2.toStp0) ((Post.bind (rel := RD X.K) p2).imp fun z H3 ⟨g3, dz, s3, st3, R3, r3, _, p3⟩ => ?_)
    cases eg : dget x dy s3 with
    | none => simp only [eg] at p3; exact p3.elim
    | some o =>
      simp only [eg] at p3
      obtain ⟨p', ov, e1, e2, e3, e4⟩ := dget_ok R3 (RD.mono (st2.trans st3).toStp0 _ _ r1) (RD.mono st3.toStp0 _ _ r2) eg
      cases e1
      refine ⟨ov, e2, ?_⟩
      cases o with
      | none => rw [e3 rfl]; exact post_ok R3 r3 p3
      | some d =>
        obtain ⟨w, rfl, rw'⟩ := e4 d rfl
        exact post_ok R3 rw' p3
  · rw [if_neg hx] at p1; exact p1.elim
theorem px_get1 (hu : X.A.units + 1 < cLine) (ho : PX X W o mo) (he : PX X W e mk) (m : M1 X o "get" apos e cpos) : PX X W (.Call (.Attribute o "get" apos) [e] [] cpos) (get1M mo mk) := by
  refine PE.imp (pe_dget1 hu ho he m) fun σ H Q h => (TX.bind (rel := RD X.K) h).imp fun v H1 ⟨g1, x, s1, env, R1, E1, r1, p1⟩ => ?_
  by_cases hx : isDic x s1 = true
  · rw [if_pos hx] at p1
    obtain ⟨p, rfl, hd⟩ := isD_of R1 r1 hx
    refine ⟨p, rfl, hd, TX.mk R1 E1 ((Post.bind (rel := RD X.K) p1).imp fun y H2 ⟨g2, dy, s2, st2, R2, r2, _, p2⟩ => ?_)⟩
    cases eg : dget x dy s2 with
    | none => simp only [eg] at p2; exact p2.elim
    | some o =>
      simp only [eg] at p2
      obtain ⟨p', ov, e1, e2, e3, e4⟩ := dget_ok R2 (RD.mono st2.toStp0 _ _ r1) r2 eg
      cases e1
      refine ⟨ov, e2, ?_⟩
      cases o with
      | none => rw [e3 rfl]; exact post_ok (d := .non) R2 rfl p2
      | some d =>
        obtain ⟨w, rfl, rw'⟩ := e4 d rfl
        exact post_ok R2 rw' p2
  · rw [if_neg hx] at p1; exact p1.elim
end
/-- d.pop(k) -/
def dpopF (x y : D) (s : S) : R D := match x with
  | .ref a => match s.heap a with
    | some (.dK kvs) => match keyOf y with
      | some k => match getK kvs k with
        | some d => .ok d (s.upd a (.dK (dropD kvs k)))
        | none => .bad
      | none => .bad
    | _ => .bad
  | _ => .bad
theorem dropK_rel {K : Frag} {g : Gh} {H : Hp} (k : Key) : ∀ {kvs : List (Key × D)} {ws : List (Key × V)}, ws.map (·.1) = kvs.map (·.1) → RDs K g H (kvs.map (·.2)) (ws.map (·.2)) →
    (dropK ws k).map (·.1) = (dropD kvs k).map (·.1) ∧ RDs K g H ((dropD kvs k).map (·.2)) ((dropK ws k).map (·.2))
  | [], [], _, _ => ⟨rfl, rfl⟩
  | [], _ :: _, e, _ => by simp at e
  | _ :: _, [], e, _ => by simp at e
  | p :: kvs, w :: ws, e, r => by
    simp only [List.map_cons, List.cons.injEq] at e
    obtain ⟨v, us, e2, h1, h2⟩ := r
    simp only [List.map_cons, List.cons.injEq] at e2
    obtain ⟨e3, e4⟩ := e2
    subst e4
    obtain ⟨i1, i2⟩ := dropK_rel k e.2 h2
    unfold dropK dropD at *
    rw [List.filter_cons, List.filter_cons, e.1]
    by_cases hk : decide (p.1 ≠ k) = true
    · rw [if_pos hk, if_pos hk, List.map_cons, List.map_cons, List.map_cons, List.map_cons, e.1, i1, e3]
      exact ⟨rfl, .cons h1 i2⟩
    · rw [if_neg hk, if_neg hk]
      exact ⟨i1, i2⟩
/-- o.pop(e): of a list or a dict -/
noncomputable def popM (mo mk : ME D) : ME D := fun env s => bd (mo env s) fun x s1 => if isLst x s1 = true then (if isLst x s1 = true then bd (consM mk nilM env s1) fun ds s2 => pop1F x ds s2 else .bad) else if isDic x s1 = true then bd (mk env s1) fun y s2 => dpopF x y s2 else .bad
section
variable {X : Cx} {W : WX} {o e : Expr} {apos cpos : Pos} {mo mk : ME D}
theorem px_dpop (ho : PX X W o mo) (he : PX X W e mk) (m : M1 X o "pop" apos e cpos) : PX X W (.Call (.Attribute o "pop" apos) [e] [] cpos) (fun env s => bd (mo env s) fun x s1 => if isDic x s1 = true then bd (mk env s1) fun y s2 => dpopF x y s2 else .bad) := by
  refine PE.imp (pe_dpop1 ho he m) fun σ H Q h => (TX.bind (rel := RD X.K) h).imp fun v H1 ⟨g1, x, s1, env, R1, E1, r1, p1⟩ => ?_
  by_cases hx : isDic x s1 = true
  · rw [if_pos hx] at p1
    obtain ⟨p, rfl, hd⟩ := isD_of R1 r1 hx
    refine ⟨p, rfl, hd, TX.mk R1 E1 ((Post.bind (rel := RD X.K) p1).imp fun y H2 ⟨g2, dy, s2, st2, R2, r2, _, p2⟩ => ?_)⟩
    cases x with
    | ref a =>
      replace p2 : Post X.K W g2 H2 σ (RD X.K) (match s2.heap a with
        | some (.dK kvs) => match keyOf dy with
          | some k => match getK kvs k with
            | some d => .ok d (s2.upd a (.dK (dropD kvs k)))
            | none => .bad
          | none => .bad
        | _ => .bad) Q := p2
      split at p2
      · rename_i kvs ha
        split at p2
        · rename_i k hk
          split at p2
          · rename_i d hg
            obtain ⟨q, eq, hm⟩ := RD.mono st2.toStp0 _ _ r1
            cases eq
            obtain ⟨q', h1, _, ws, h3, h4, h5⟩ := R2.obj a _ ha
            rw [hm] at h1; cases h1
            obtain ⟨w, hw, rw'⟩ := (getK_pair k h4 h5).2 d hg
            have F := R2.freeAt ha rfl hm
            have st := stp_free (o := .dK (dropK ws k)) F.1 F.2
            obtain ⟨d1, d2⟩ := dropK_rel k h4 h5
            exact ⟨ws, k, w, h3, keyOf_ok r2 hk, hw, p2 g2 _ w st (R2.upd ha rfl hm ⟨_, upd_same, d1, RDs.mono st.toStp0 _ _ d2⟩) (RD.mono st.toStp0 _ _ rw')⟩
          · exact p2.elim
        · exact p2.elim
      · exact p2.elim
    | _ => exact p2.elim
  · rw [if_neg hx] at p1; exact p1.elim
theorem px_pop1 (ho : PX X W o mo) (he : PX X W e mk) (hst : starEach [e] X.env = (false, eval e X.env) :: starEach [] X.env) (m : M1 X o "pop" apos e cpos) : PX X W (.Call (.Attribute o "pop" apos) [e] [] cpos) (popM mo mk) := by
  have h1 : PX X W (.Call (.Attribute o "pop" apos) [e] [] cpos) (mthM isLst pop1F mo (consM mk nilM)) :=
    px_mt PySem.F.plainAttrs_list PySem.F.slot_list_pop PySem.F.type_list_pop mt_popAt opm_pop1 ty_lst ho (pl_cons hst he pl_nil) m.base m.few m.line hst (by show (backTo cpos []).any (·.1) = false; rfl)
  exact PE.imp (PE.or h1 (px_dpop ho he m)) fun σ H Q h => TE_or h
end
end Co
namespace Co
open PySem PySem.Spec PyProof.Rows L2
/-! ### list(d.values()) -/
def tLstVals (td : TE) : TE := fun σ H Q => td σ H fun x H1 => ∃ a kvs, x = V.ref a ∧ Rd H1 a (.dK kvs) ∧ ∀ l, H1 l = none → Q (.ref l) (upd H1 l (.lst (kvs.map (·.2))))
theorem pe_lstVals {X : Cx} {o : Expr} {p pos apos mpos : Pos} {td : TE} (hc : X.calm = true) (hg : Gl X "list") (hm : X.mg "list" = none) (hd : PE X o td) (hbase : attributeBase o "values" X.env (eval o X.env) = eval o X.env) (hline : (apos.endLine == mpos.line) = true)
    (hse : starEach [Expr.Call (.Attribute o "values" apos) [] [] mpos] X.env = (false, eval (Expr.Call (.Attribute o "values" apos) [] [] mpos) X.env) :: starEach [] X.env) :
    PE X (.Call (.Name "list" p) [.Call (.Attribute o "values" apos) [] [] mpos] [] pos) (tLstVals td) := by
  refine ⟨fun pins s σ H Q I h => ?_⟩
  refine Call_ (ld_blt I hg hm boot_list (PyProof.Rows.callWith_type1 (args_cons (wpAny_Call_method0_late hbase hline (thn (hd.run pins s σ H _ I h) fun v s1 ⟨x, H1, I1, r1, a, kvs, ex, ha, q⟩ => ?_)) hse) hse))
  subst ex
  obtain rfl : v = Value.ref a := r1
  obtain ⟨z, hsys, vs, rel, dof⟩ := (show ObjOk X.prog X.w H1 s1.heap a (.dK kvs) from ha.ok I1.hok)
  obtain ⟨ep, dat⟩ := dof.dictAt
  have dat' := dat
  obtain ⟨ob, es, ho, ex, hdat, hko, hpr, hnd⟩ := dat'
  refine ⟨"dict", "dict.values", F.plainAttrs_dict, F.slot_dict_values, F.type_dict_values, ⟨ob, ho, ex.1⟩, fun b e => ?_, Calls.callWith_builtin rfl (PySem.evalArgs_none ?_)⟩
  · cases e
    exact ⟨ob, ho, ex.2.1⟩
  refine call_meetsIn F.slot_dict_values ⟨ob, ho, ex.1⟩ F.entry_dict_values (F.args_dict_values_1 _) (meets_dict_values (mixKind X.prog X.w) a hsys) ⟨⟨vs, dof⟩, ?_⟩
  have k1 : ∀ b u, s1.heap.get? b = some u → (s1.heap.push { cls := .type "dict_values", data := .fields #[.ref a] }).get? b = some u := fun b u e => Heap.get?_push_of_some _ e
  have dat1 : (s1.heap.push { cls := .type "dict_values", data := .fields #[.ref a] }).DictAt (mixKind X.prog X.w) a vs ep := dat.keep k1
  have hl : kvs.length = vs.length := Paired.length rel
  refine args_nil ?_
  have I2 : Inv X pins σ H1 { s1 with heap := s1.heap.push { cls := .type "dict_values", data := .fields #[.ref a] } } := I1.kept (t' := s1.toks) k1
  refine PySem.W.kdl_call (PySem.W.kdl_values (knd := mixKind X.prog X.w) (kvs := vs) (ep := ep) (r := s1.heap.objs.size) (d := a)) (I1.ok.hd hc) ⟨⟨_, Heap.get?_push_size _ rfl, rfl, rfl⟩, dat1⟩ (by rw [← hl]; exact z) fun h' tk acc' c' hkeep hS hacc => ?_
  have e1 : acc'.toList.length = acc'.size := by simp
  refine ⟨.ref _, upd H1 _ (.lst (kvs.map (·.2))), I2.laid hkeep (Nat.le_refl _) (show ObjOk X.prog X.w _ _ _ (.lst (kvs.map (·.2))) from ⟨by rw [List.length_map]; exact z, acc'.toList, c', ?_, ?_⟩), rfl, q _ (I2.hok.fresh (Nat.le_refl _))⟩
  · refine vals_of_at (by rw [List.length_map, e1, hacc.1, hl]) fun j x w h1 h2 => ?_
    obtain ⟨k, hk⟩ := hacc.2 j w (by rw [← Array.getElem?_toList]; exact h2)
    rw [List.getElem?_map] at h1
    obtain ⟨kv, hkv, rfl⟩ := Option.map_eq_some_iff.mp h1
    obtain ⟨u, hu, ru⟩ := kv_get (k := kv.1) (v := kv.2) rel hkv
    rw [hk] at hu
    cases hu
    exact ru
  · rw [Array.toArray_toList]; exact hS
def lvalF (m : Bool) (x : D) (s : S) : R D := match dicOf x s with
  | some kvs => mkL m (kvs.map (·.2)) s
  | none => .bad
theorem px_lvals {X : Cx} {W : WX} {o : Expr} {mo : ME D} {m : Bool} {p pos apos mpos : Pos} (hc : X.calm = true) (hg : Gl X "list") (hm : X.mg "list" = none) (hd : PX X W o mo) (hbase : attributeBase o "values" X.env (eval o X.env) = eval o X.env) (hline : (apos.endLine == mpos.line) = true)
    (hse : starEach [Expr.Call (.Attribute o "values" apos) [] [] mpos] X.env = (false, eval (Expr.Call (.Attribute o "values" apos) [] [] mpos) X.env) :: starEach [] X.env) :
    PX X W (.Call (.Name "list" p) [.Call (.Attribute o "values" apos) [] [] mpos] [] pos) (op1M (lvalF m) mo) := by
  refine PE.imp (pe_lstVals hc hg hm hd hbase hline hse) fun σ H Q h => (TX.bind (rel := RD X.K) h).imp fun v H1 ⟨g1, x, s1, env, R1, E1, r1, p1⟩ => ?_
  unfold lvalF at p1
  cases e : dicOf x s1 with
  | none => rw [e] at p1; exact p1.elim
  | some kvs =>
    rw [e] at p1
    obtain ⟨p, ws, rfl, e2, e3, e4⟩ := dic_ok R1 r1 e
    exact ⟨p, ws, rfl, e2, (post_mkL R1 e4 p1).2⟩
end Co
namespace Co
open PySem PySem.Spec PyProof.Rows L2
/-! ### dict displays -/
def flatV : List (V × V) → List V
  | [] => []
  | p :: ps => p.1 :: p.2 :: flatV ps
/-- the pairs of a display, keys and values by turns -/
abbrev RVV (K : Frag) : Gh → Hp → List D → List (V × V) → Prop := fun g H ds ps => RDs K g H ds (flatV ps)
structure PRs (X : Cx) (W : WX) (pos : Pos) (keys : List (Option Expr)) (values : List Expr) (m : ME (List D)) : Prop where
  run : ∀ (pins : List (Addr × Obj)) (s : Shared) (σ : L2.St) (H : Hp) (Q : List (V × V) → Hp → Prop), Inv X pins σ H s → TX X.K W (RVV X.K) m σ H Q →
    wpAny (model X.prog X.w) X.A (evalPairs (pairTrees keys values X.env pos)) (fun vs s' => ∃ ps H', Inv X pins σ H' s' ∧ VV ps vs ∧ Q ps H') X.xe s
  len : keys.length = values.length
  all : keys.all (·.isSome) = true
section
variable {X : Cx} {W : WX} {pos : Pos}
theorem prs_nil : PRs X W pos [] [] nilM := ⟨fun pins s σ H Q I ⟨g, t, env, R, E, p⟩ => pairTrees_nil_walk ⟨[], H, I, .nil, p g H [] (.refl _ _) R rfl⟩, rfl, rfl⟩
theorem prs_cons {k v : Expr} {ks : List (Option Expr)} {vs : List Expr} {mk mv : ME D} {mr : ME (List D)} (hk : PX X W k mk) (hv : PX X W v mv) (hr : PRs X W pos ks vs mr) : PRs X W pos (some k :: ks) (v :: vs) (consM mk (consM mv mr)) := by
  refine ⟨fun pins s σ H Q I h => ?_, by simp [hr.len], by simpa using hr.all⟩
  refine pairTrees_cons_walk (thn (hk.run pins s σ H _ I (TX.bind (rel := RD X.K) h)) fun u s1 ⟨x, H1, I1, rx, q1⟩ => ?_)
  obtain ⟨g1, d, t1, env, R1, E1, r1, p1⟩ := q1
  unfold consM at p1
  rw [bd_assoc] at p1
  refine thn (hv.run pins s1 σ H1 _ I1 (TX.mk R1 E1 (Post.bind (rel := RD X.K) p1))) fun w s2 ⟨y, H2, I2, ry, q2⟩ => ?_
  obtain ⟨g2, e, t2, st2, R2, r2, _, p2⟩ := q2
  rw [bd_assoc] at p2
  refine thn (hr.run pins s2 σ H2 _ I2 (TX.mk R2 (E1.mono st2.toStp0) (Post.bind (rel := RVV X.K) p2))) fun ws s3 ⟨ps, H3, I3, rel, q3⟩ => ?_
  obtain ⟨g3, es, t3, st3, R3, r3, _, p3⟩ := q3
  exact ⟨(x, y) :: ps, H3, I3, .cons ⟨rx, ry⟩ rel, p3 g3 H3 _ (.refl _ _) R3 (.cons (RD.mono (st2.trans st3).toStp0 _ _ r1) (.cons (RD.mono st3.toStp0 _ _ r2) r3))⟩
end
def pairUp : List D → Option (List (Key × D))
  | [] => some []
  | k :: v :: ds => match keyOf k, pairUp ds with
    | some k, some kvs => some ((k, v) :: kvs)
    | _, _ => none
  | _ => none
def dspF (ds : List D) (s : S) : R D := match pairUp ds with
  | some kvs => if kvs.length ≤ 15 then mkD true (mergeD [] kvs) s else .bad
  | none => .bad
theorem pairUp_ok {K : Frag} {g : Gh} {H : Hp} : ∀ {ds : List D} {ps : List (V × V)} {kvs : List (Key × D)}, RDs K g H ds (flatV ps) → pairUp ds = some kvs → ∃ ws : List (Key × V), ps = ws.map (fun kv => (kV kv.1, kv.2)) ∧ ws.map (·.1) = kvs.map (·.1) ∧ RDs K g H (kvs.map (·.2)) (ws.map (·.2))
  | [], [], kvs, r, e => by cases e; exact ⟨[], rfl, rfl, rfl⟩
  | [], p :: ps, kvs, r, e => by have := r.length; simp [flatV] at this
  | [_], ps, kvs, r, e => by cases e
  | k :: v :: ds, [], kvs, r, e => by have := r.length; simp [flatV] at this
  | k :: v :: ds, p :: ps, kvs, r, e => by
    obtain ⟨a, as, ea, r1, b, bs, eb, r2, r3⟩ := r
    cases ea; cases eb
    unfold pairUp at e
    split at e
    · rename_i k' kvs' hk hp
      cases e
      obtain ⟨ws, h1, h2, h3⟩ := pairUp_ok r3 hp
      exact ⟨(k', p.2) :: ws, by rw [List.map_cons, ← h1, ← keyOf_ok r1 hk], by simp [h2], .cons r2 h3⟩
    · cases e
def dspTF (ds : List D) (s : S) : R D := match ds with
  | [k, v] => match keyT k with
    | some ks => .ok (.ref s.next) (s.alloc (.dT [(ks, v)]))
    | none => .bad
  | _ => .bad
section
variable {X : Cx} {W : WX} {pos : Pos} {keys : List (Option Expr)} {values : List Expr} {m : ME (List D)}
theorem px_disp (h : PRs X W pos keys values m) (h0 : keys ≠ []) (h15 : keys.length ≤ 15) : PX X W (.Dict keys values pos) (argM dspF m) := by
  refine ⟨fun pins s σ H Q I q => ?_⟩
  obtain ⟨g, t, env, R, E, p⟩ := q
  have p : Post X.K W g H σ (RD X.K) (bd (m env t) dspF) Q := p
  have hn := I.hok.fresh (Nat.le_refl s.heap.objs.size)
  have I1 := I.laid (a := s.heap.objs.size) (o := .dK []) (h' := s.heap.push { cls := .type "dict", data := .dict #[] }) (t' := s.toks) (fun _ _ q => Heap.get?_push_of_some _ q) (Nat.le_refl _) (dk_empty s.heap I.big)
  have O : Own g t (upd H s.heap.objs.size (.dK [])) s.heap.objs.size := own_new R hn
  have st0 : Stp g H g (upd H s.heap.objs.size (.dK [])) := stp_new R hn
  have RP := (R.new (o := .dK []) hn).prot O
  have sP := st0.trans (stp_prot (p := s.heap.objs.size))
  refine wpAny_Dict_walk (knd := mixKind X.prog X.w) h.all h.len h0 h15 (thn (h.run pins _ σ _ _ I1 (TX.mk RP (E.mono sP.toStp0) (Post.bind (rel := RVV X.K) (Post.later sP p)))) fun ws s2 ⟨ps, H2, I2, rel, q2⟩ => ?_)
  obtain ⟨g2, ds, t2, st2, R2, r2, en, _⟩ := q2
  rw [en] at p
  have p : Post X.K W g H σ (RD X.K) (dspF ds t2) Q := p
  unfold dspF at p
  cases ep : pairUp ds with
  | none => rw [ep] at p; exact p.elim
  | some kvs =>
    rw [ep] at p
    simp only at p
    by_cases hk : kvs.length ≤ 15
    · rw [if_pos hk] at p
      obtain ⟨us, rfl, e2, e3⟩ := pairUp_ok r2 ep
      obtain ⟨m1, m2⟩ := merge_rel (kvs := []) (us := []) e2 e3 rfl rfl
      obtain ⟨k1, k2, k3, k4, k5⟩ := turn_end (ob := .dK (mergeK [] us)) st2 R2 O (fun xs e => by rw [upd_same] at e; cases e) (fun o u e => by rw [upd_same] at e; cases e)
      have e : H2 s.heap.objs.size = some (.dK []) := k1.trans upd_same
      obtain ⟨rs, c, rk⟩ := carries_of (P := X.prog) (w := X.w) rel
      obtain ⟨z, hd, vs0, r0, dd⟩ := dk_of I2.hok e
      cases r0
      refine ⟨rs, c, dd, fun h' dd' hs => ⟨.ref s.heap.objs.size, _, ?_, rfl, own_mkD k3 k4 upd_same m1 (RDs.mono k5 _ _ m2) (Post.later (st0.trans k2) p)⟩⟩
      have hz : (mergeK [] us).length ≤ sizeLine := by
        have h1 := length_mergeK us []
        have h2 := congrArg List.length e2
        rw [List.length_map, List.length_map] at h2
        rw [List.length_nil] at h1
        rw [sizeLine_eq]; omega
      have he : ∃ q, h'.get? s.heap.objs.size = some q := let ⟨q, _, _, hq, _⟩ := dd'; ⟨q, hq⟩
      exact d_write I2 (by rw [e]; exact True.intro) hs he (dk_new hz hd (rk.merge .nil) dd')
    · rw [if_neg hk] at p; exact p.elim
theorem Dict_pairsH {prog : Program} {w : World} {K : Type} [DecidableEq K] {knd : HeapKind prog w K} {A : Around} {E : Value → Shared → Prop} {s : Shared} {env : PySem.Env} {keys : List (Option Expr)} {values : List Expr} {pos : Pos} {pairs : List (Sem Value × Sem Value)} {Q : Value → Shared → Prop} (hu : knd.room A)
    (hshape : (evalEachOpt keys env).zip ((evalEach values env).map fun v => do let x ← v; standAt pos; pure x) = pairs.map fun p => (some p.1, p.2)) (h0 : pairs ≠ []) (hlen : pairs.length ≤ 15)
    (h : wpAny (model prog w) A (evalPairs pairs) (fun vs s₁ => ∃ ps, CarriesH knd s₁.heap vs ps ∧ s₁.heap.DictOfH knd s.heap.objs.size [] ∧
      ∀ h' tk, h'.DictOfH knd s.heap.objs.size (storedAllH [] ps) → Heap.SameBut s.heap.objs.size s₁.heap h' → Q (.ref s.heap.objs.size) { s₁ with heap := h', toks := tk }) E
      { s with heap := s.heap.push { cls := .type "dict", data := .dict #[] } }) :
    wpAny (model prog w) A (eval (.Dict keys values pos) env) Q E s := by
  rw [arm_eval_Dict, hshape, dictDisplay_pairs pairs h0 (by omega)]
  exact wpAny_bind (wpAny_standAt (wpAny_bind (wpAny_subDictH (knd := knd) (Q := fun d s' => wpAny (model prog w) A (pure (Value.ref d)) Q E s') hu hlen
    (wpAny_mono h (fun vs s₁ h₁ => by obtain ⟨ps, hc, hm, hq⟩ := h₁; exact ⟨ps, hc, hm, fun h' tk a b => wpAny_pure (hq h' tk a b)⟩) fun _ _ e => e))))
/-- {(..): v} -/
theorem px_dispT {k v : Expr} {mk mv : ME D} (hu : X.A.units < cLine) (hk : PX X W k mk) (hv : PX X W v mv) : PX X W (.Dict [some k] [v] pos) (argM dspTF (consM mk (consM mv nilM))) := by
  have h : PRs X W pos [some k] [v] (consM mk (consM mv nilM)) := prs_cons hk hv prs_nil
  refine ⟨fun pins s σ H Q I q => ?_⟩
  obtain ⟨g, t, env, R, E, p⟩ := q
  have p : Post X.K W g H σ (RD X.K) (bd (consM mk (consM mv nilM) env t) dspTF) Q := p
  have hn := I.hok.fresh (Nat.le_refl s.heap.objs.size)
  have I1 := I.laid (a := s.heap.objs.size) (o := .dT []) (h' := s.heap.push { cls := .type "dict", data := .dict #[] }) (t' := s.toks) (fun _ _ q => Heap.get?_push_of_some _ q) (Nat.le_refl _) (dt_empty s.heap I.big)
  have O : Own g t (upd H s.heap.objs.size (.dT [])) s.heap.objs.size := own_new R hn
  have st0 : Stp g H g (upd H s.heap.objs.size (.dT [])) := stp_new R hn
  have RP := (R.new (o := .dT []) hn).prot O
  have sP := st0.trans (stp_prot (p := s.heap.objs.size))
  have hlen : (pairTrees [some k] [v] X.env pos).length = 1 := pairTrees_length _ _ _ _ h.all h.len
  refine Dict_pairsH (knd := tupleKind (mixKind X.prog X.w)) (pairs := pairTrees [some k] [v] X.env pos) hu (zip_pairTrees _ _ _ _ h.all h.len) (fun z => by rw [z] at hlen; cases hlen) (by omega)
    (thn (h.run pins _ σ _ _ I1 (TX.mk RP (E.mono sP.toStp0) (Post.bind (rel := RVV X.K) (Post.later sP p)))) fun ws s2 ⟨ps, H2, I2, rel, q2⟩ => ?_)
  obtain ⟨g2, ds, t2, st2, R2, r2, en, _⟩ := q2
  rw [en] at p
  have p : Post X.K W g H σ (RD X.K) (dspTF ds t2) Q := p
  unfold dspTF at p
  obtain ⟨kd, vd, ed⟩ : ∃ kd vd, ds = [kd, vd] := by
    split at p
    · exact ⟨_, _, rfl⟩
    · exact p.elim
  subst ed
  simp only at p
  cases ek : keyT kd with
  | none => rw [ek] at p; exact p.elim
  | some ks =>
    rw [ek] at p
    simp only at p
    obtain ⟨x, as, ea, r3, y, bs, eb, r4, r5⟩ := r2
    cases ps with
    | nil => cases ea
    | cons pp ps =>
      cases ea; cases eb
      cases ps with
      | cons _ _ => cases r5
      | nil =>
        cases rel with
        | @cons _ wv _ _ hw t0 =>
          cases t0
          have ht : ∃ a, pp.1 = .ref a ∧ H2 a = some (.tup (ks.map kV)) := by
            cases kd with
            | tup ks' =>
              obtain ⟨a, vs, e1, e2, e3⟩ := r3
              exact ⟨a, e1, by rw [e2, keysOf_ok e3 ek]⟩
            | _ => cases ek
          obtain ⟨a, e1, e2⟩ := ht
          obtain ⟨k1, k2, k3, k4, k5⟩ := turn_end (ob := .dT [(ks, pp.2)]) st2 R2 O (fun xs e => by rw [upd_same] at e; cases e) (fun o u e => by rw [upd_same] at e; cases e)
          have e : H2 s.heap.objs.size = some (.dT []) := k1.trans upd_same
          obtain ⟨z, hd, xs0, r0, dd⟩ := dt_of I2.hok e
          cases r0
          have hw1 : wv.1 = Value.ref a := by have := hw.1; rw [e1] at this; exact this
          have ne : a ≠ s.heap.objs.size := fun z => by rw [z, e] at e2; cases e2
          refine ⟨[(ks, a, wv.2)], ⟨hw1, rfl, key_of I2.hok e2, trivial⟩, dd, fun h' tk dd' hs => ⟨.ref s.heap.objs.size, upd H2 s.heap.objs.size (.dT [(ks, pp.2)]), ?_, rfl, ?_⟩⟩
          · obtain ⟨q, es, ep, hq, h2, h3, h4, _, h5⟩ := dd'
            refine d_write I2 (by rw [e]; exact True.intro) hs ⟨q, hq⟩ ⟨by rw [List.length_singleton, sizeLine_eq]; omega, hd, [(ks, a, wv.2)], .cons ⟨rfl, by rw [upd_ne ne]; exact e2, hw.2⟩ .nil, q, es, ep, hq, h2, h3, h4, h5⟩
          · have rf : RDs X.K (g2.unprot s.heap.objs.size) (upd H2 s.heap.objs.size (.dT [(ks, pp.2)])) [vd] [pp.2] := .cons (RD.mono k5 _ _ r4) rfl
            have sA := stp_add0 (p := s.heap.objs.size) k3
            exact Post.later (st0.trans k2) p ((g2.unprot s.heap.objs.size).add t2.next s.heap.objs.size) _ _ sA (k3.addOwn k4 ⟨[(ks, pp.2)], upd_same, rfl, RDs.mono sA.toStp0 _ _ rf⟩) ⟨s.heap.objs.size, rfl, if_pos rfl⟩
end
end Co
namespace Co
open PySem PySem.Spec PyProof.Rows L2
/-! ### a < b < c -/
section
variable {X : Cx} {W : WX} {a b c : Expr} {ma mb mc : ME D} {pos : Pos}
theorem chain_of {r r' : R2} {f f' : D → D → S → R D} (hf : Op2 X.K r f) (hf' : Op2 X.K r' f') (σ : L2.St) (H : Hp) (Q : VK) (h : TE' X.K W (chainM f f' ma mb mc) σ H Q) : tChain r r' (TE' X.K W ma) (TE' X.K W mb) (TE' X.K W mc) σ H Q := by
  refine (TX.bind (rel := RD X.K) h).imp fun v H1 ⟨g1, x, s1, env, R1, E1, r1, p1⟩ => ?_
  refine TX.mk (g := g1) (s := s1) (env := env) R1 E1 ((Post.bind (rel := RD X.K) p1).imp fun w H2 ⟨g2, y, s2, st, R2, r2, _, p2⟩ => ?_)
  refine hf W g2 s2 H2 σ x y v w _ R2 (RD.mono st.toStp0 x v r1) r2 ((Post.bind (rel := RD X.K) p2).imp fun u H3 ⟨g3, z, s3, st3, R3, r3, _, p3⟩ => ?_)
  cases z with
  | bl k =>
    refine ⟨k, r3, ?_⟩
    cases k with
    | false =>
      rw [if_neg Bool.false_ne_true]
      exact p3 g3 H3 _ (.refl _ _) R3 rfl
    | true =>
      rw [if_pos rfl]
      have p4 : Post X.K W g3 H3 σ (RD X.K) (bd (mc env s3) fun w s4 => f' y w s4) Q := p3
      refine TX.mk (g := g3) (s := s3) (env := env) R3 (E1.mono (st.trans st3).toStp0) ((Post.bind (rel := RD X.K) p4).imp fun u H4 ⟨g4, z, s4, st4, R4, r4, _, p4⟩ => ?_)
      exact hf' W g4 s4 H4 σ y z w u Q R4 (RD.mono (st3.trans st4).toStp0 y w r2) r4 p4
  | _ => exact p3.elim
theorem px_chn {op op' : CmpOp} {r r' : R2} {f f' : D → D → S → R D} (ho : OpR X (compareOp op) r) (ho' : OpR X (compareOp op') r') (hf : Op2 X.K r f) (hf' : Op2 X.K r' f') (hm : behindInMarks op' c = false) (ha : PX X W a ma) (hb : PX X W b mb) (hc : PX X W c mc) :
    PX X W (.Compare a [op, op'] [b, c] pos) (chainM f f' ma mb mc) := PE.imp (pe_chain ho ho' ha hb hc hm) (chain_of hf hf')
theorem pb_chn {op op' : CmpOp} {r r' : R2} {f f' : D → D → S → R D} (ho : OpR X (compareOp op) r) (ho' : OpR X (compareOp op') r') (hf : Op2 X.K r f) (hf' : Op2 X.K r' f') (hm : behindInMarks op' c = false) (ha : PX X W a ma) (hb : PX X W b mb) (hc : PX X W c mc) :
    PB X W (.Compare a [op, op'] [b, c] pos) (boolM (chainM f f' ma mb mc)) := PT.imp (pt_chain ho ho' ha hb hc hm) (tTest_of (chain_of hf hf'))
end
/-! ### enumerate -/
def enD (ds : List D) : List D := ds.zipIdx.map fun p => .tup [.int (p.2 : Nat), p.1]
def enIt (x : D) (s : S) : R Itm := match lstOf x s with
  | some ds => .ok (enD ds, gdOf x s) s
  | none => .bad
theorem lst_now {K : Frag} {g g1 : Gh} {s s1 : S} {H H1 : Hp} {x : D} {ds : List D} {q : Addr} (r : RD K g H x (.ref q)) (e : lstOf x s = some ds) (st : Stp g H g1 H1) (R1 : Rel K g1 s1 H1) (gd : GdOk (gdOf x s) s1) : ∃ vs, SqL K H1 q vs ∧ RDs K g1 H1 ds vs := by
  cases x with
  | lv xs =>
    cases e
    obtain ⟨p, us, ep, z, h1, h2⟩ := r
    cases ep
    exact ⟨us, .of ((st.z q z).2.trans h1), RDs.mono st.toStp0 _ _ h2⟩
  | sc xs =>
    cases e
    obtain ⟨p, us, ep, h1, h2⟩ := r
    cases ep
    exact ⟨us, (st.toStp0.sqS h1).seq, RDs.mono st.toStp0 _ _ h2⟩
  | ref a =>
    obtain ⟨p, ep, hm⟩ := r
    cases ep
    have e' : (match s.heap a with | some (.lst ds) => some ds | _ => none) = some ds := e
    split at e'
    · rename_i xs ha
      cases e'
      have gd' : s1.heap a = some (.lst ds) := by
        have : gdOf (.ref a) s = some (a, .lst ds) := by
          show (match s.heap a with | some o => some (a, o) | none => none) = _
          rw [ha]
        rw [this] at gd
        exact gd
      obtain ⟨q', h1, _, us, h3, h4⟩ := R1.obj a _ gd'
      rw [st.mu a q hm] at h1; cases h1
      exact ⟨us, .of h3, h4⟩
    · cases e'
  | _ => cases e
theorem itOk_enum {K : Frag} {g : Gh} {s : S} {H : Hp} {x : D} {ds : List D} {q : Addr} (r : RD K g H x (.ref q)) (e : lstOf x s = some ds) : ItOk K g H (Ite K q) (enD ds, gdOf x s) := by
  intro g1 H1 s1 st R1 gd
  obtain ⟨us, n1, n2⟩ := lst_now r e st R1 gd
  refine ⟨⟨us, n1, by show us.length ≤ (enD ds).length; unfold enD; rw [List.length_map, List.length_zipIdx, n2.length]; exact Nat.le_refl _⟩, fun i d ei => ?_⟩
  have ei : (enD ds)[i]? = some d := ei
  unfold enD at ei
  rw [List.getElem?_map, List.getElem?_zipIdx] at ei
  obtain ⟨pr, hp, rfl⟩ := Option.map_eq_some_iff.mp ei
  obtain ⟨d', hd, rfl⟩ := Option.map_eq_some_iff.mp hp
  obtain ⟨v, hv, rv⟩ := n2.get hd
  refine ⟨⟨us, v, n1, hv⟩, fun x H2 y => ?_⟩
  obtain ⟨T, x', rfl, hT, rfl, y⟩ := y
  have ev := y us n1
  rw [hv] at ev
  cases ev
  have st2 := stp_new (o := .tup [.int (i : Nat), v]) R1 hT
  refine ⟨g1, st2, R1.new hT, T, _, rfl, upd_same, .cons ?_ (.cons (RD.mono st2.toStp0 _ _ rv) .nil)⟩
  show V.int _ = V.int _
  simp
/-! ### a tuple that is known to hold no dict -/
def tTupN (t : TA) : TE := fun σ H Q => t σ H fun xs H1 => xs.length ≤ sizeLine ∧ ∀ p o, H1 p = none → o.dict = none → Q (.ref p) (upd H1 p (.frz o (.tup xs)))
theorem pe_tupN {X : Cx} {es : List Expr} {k : Nat} {pos : Pos} {t : TA} (h : PA X es t) : PE X (.Tuple es k pos) (tTupN t) := by
  refine ⟨fun pins s σ H Q I hq => ?_⟩
  refine wpAny_Tuple_spliced (thn (h.run pos pins s σ H _ I hq) fun us s1 ⟨xs, H1, I1, r, z, q⟩ => ⟨by rw [← r.length]; exact z, ?_⟩)
  have hf : H1 s1.heap.objs.size = none := I1.hok.fresh (Nat.le_refl _)
  exact ⟨.ref s1.heap.objs.size, upd H1 s1.heap.objs.size (.frz _ (.tup xs)), I1.laid (t' := s1.toks) (fun b u e => Heap.get?_push_of_some _ e) (Nat.le_refl _) ⟨Heap.get?_push_size _ rfl, z, us, r, ⟨_, Heap.get?_push_size _ rfl, rfl, _, rfl⟩⟩, rfl, q _ _ hf rfl⟩
theorem px_ctup {X : Cx} {W : WX} {es : List Expr} {k : Nat} {pos : Pos} {mes : ME (List D)} (h : PL X W es mes) : PX X W (.Tuple es k pos) (argM (mkC true) mes) :=
  PE.imp (pe_tupN h) fun σ H Q hq => (TX.bind (rel := RDs X.K) hq).imp fun vs H1 ⟨g1, ds, s1, env, R1, E1, r1, p1⟩ => ⟨by
    unfold mkC at p1
    rw [if_pos rfl] at p1
    by_cases hl : ds.length ≤ LINE
    · rw [← r1.length]; exact hl
    · rw [if_neg hl] at p1; exact p1.elim, fun p o hp ho => post_mkC R1 r1 p1 p o hp ho⟩
/-- x += e, ints -/
theorem op2_ipadd {K : Frag} : Op2 K (ipI fun i j => i + j) (intF CTrue fun i j => .int (i + j)) := by
  intro W g s H σ x y v w Q R rx ry h
  cases x with
  | int i =>
    cases y with
    | int j =>
      cases rx; cases ry
      have h' : Post K W g H σ (RD K) (if CTrue i j then .ok (.int (i + j)) s else .bad) Q := h
      rw [if_pos (show CTrue i j from trivial)] at h'
      exact ⟨i, j, rfl, rfl, h' g H _ (.refl _ _) R rfl⟩
    | _ => exact h.elim
  | _ => cases y <;> exact h.elim
end Co
namespace Co
open PySem PySem.Spec PyProof.Rows L2
/-! ### enumerate of a tuple -/
section
open Builtin
theorem meets_enum1 {v : Value} {o : Obj} {H : Heap → Prop} (B : Begins v o H) :
    Meets (Builtin.«enumerate.__new__» ⟨[.type "enumerate", v], []⟩) (fun _ R s => H s.heap ∧
      R (.ok (.ret (.ref (s.heap.push o).objs.size))) { s with heap := (s.heap.push o).push { cls := .type "enumerate", data := .fields #[.none, .bool false, .ref s.heap.objs.size, rawInt 0, .none, .none] } }) :=
  .of_wp fun prog w A R s h => by
    obtain ⟨hp, g, d, tk, os⟩ := s; obtain ⟨h1, h⟩ := h
    have hsub := sub_enumerate
    have q1 : ∀ {A' : Around} {E : Value → Shared → Prop} {Q : Value → Shared → Prop}, Q (.ref hp.objs.size) ⟨hp.push o, g, d, tk, os⟩ → wpAny (model prog w) A' (pyIter v) Q E ⟨hp, g, d, tk, os⟩ :=
      fun q => B.iter prog w _ _ ⟨hp, g, d, tk, os⟩ _ h1 q
    wp_walk using q1
    refine wpAny_stack_any fun st => wpAny_pure ?_
    split
    · rename_i c _ _ _ _ _
      cases (c == Value.type "enumerate")
      · wp_walk using q1
        exact ⟨_, rfl, h⟩
      · wp_walk using q1
        exact ⟨_, rfl, h⟩
    · wp_walk using q1
      exact ⟨_, rfl, h⟩
theorem call_enum1 {prog : Program} {w : World} {A : Around} {E : Value → Shared → Prop} {s : Shared} {v : Value} {o : Obj} {H : Heap → Prop} {Q : Value → Shared → Prop} (B : Begins v o H) (h1 : H s.heap)
    (h : ∀ h', IsEnum h' (s.heap.objs.size + 1) s.heap.objs.size 0 .none → h'.get? s.heap.objs.size = some o → h'.objs.size = s.heap.objs.size + 2 →
      (∀ b o, s.heap.get? b = some o → h'.get? b = some o) → Q (.ref (s.heap.objs.size + 1)) { s with heap := h' }) :
    wpAny (model prog w) A (call (.type "enumerate") [v]) Q E s := by
  refine callType_new F.called_enumerate (by decide) (F.typeCall_enumerate_1 _) (F.newCall_enumerate_1 _) (fun obj => F.args_object_init_2 obj _) F.entry_enumerate_new
    (meets_enum1 B) ⟨h1, ?_⟩
  have hz : (s.heap.push o).objs.size = s.heap.objs.size + 1 := Heap.size_push ..
  show _ ∧ _
  rw [hz]
  have he : IsEnum ((s.heap.push o).push { cls := .type "enumerate", data := .fields #[.none, .bool false, .ref s.heap.objs.size, rawInt 0, .none, .none] }) (s.heap.objs.size + 1) s.heap.objs.size 0 .none := by
    have := Heap.get?_push_size (s.heap.push o) (o := { cls := .type "enumerate", data := .fields #[.none, .bool false, .ref s.heap.objs.size, rawInt 0, .none, .none] }) rfl
    rw [hz] at this; exact this
  exact ⟨⟨_, he, rfl⟩, h _ he (Heap.get?_push_of_some _ (Heap.get?_push_size _ B.free)) (by rw [Heap.size_push, hz]) fun b o x => Heap.get?_push_of_some _ (Heap.get?_push_of_some _ x)⟩
end
/-- the end alone -/
theorem draws_end {prog : Program} {w : World} {A : Around} (hh : A.handled = none) (it t : Addr) (items : Array Value) (n : Nat) (hn : items[n]? = none) :
    Draws prog w A it [it, t] n (fun _ _ => True) (fun i h => i = n ∧ h.IsTupleIter it t i ∧ h.IsTuple t items) where
  live := fun _ _ st => let ⟨o, ho, _⟩ := st.2.1; ⟨o, ho⟩
  frame := fun _ _ _ st hk => ⟨st.1, st.2.1.at fun o e => hk it (by simp) o e, st.2.2.at fun o e => hk t (by simp) o e⟩
  item := fun i s Q E hi st hQ => absurd st.1 (by omega)
  done := fun s Q E st hE => wpAny_nextOf_tuple_end hh st.2.1 st.2.2 hn hE
def IteT (K : PySem.W.Frag) (a : Addr) : It :=
  ⟨fun i H => ∃ (xs : List V) (x : V), SqT K H a xs ∧ xs[i]? = some x, fun i H v H' => ∃ T x, v = .ref T ∧ H T = none ∧ H' = upd H T (.tup [.int (i : Nat), x]) ∧ ∀ xs, SqT K H a xs → xs[i]? = some x, fun i H => ∃ xs : List V, SqT K H a xs ∧ xs.length ≤ i⟩
theorem turn_enumT {P : Program} {w : World} {K : PySem.W.Frag} {elts : List Expr} {kk : Nat} {tpos : Pos} (a e it : Addr) :
    Turn P w K (.Tuple elts kk tpos) (IteT K a) [e, it] e (fun i h => (∃ old, IsEnum h e it ((i : Nat) : Int) old) ∧ h.IsTupleIter it a i ∧ e ≠ it ∧ a ≠ e ∧ a ≠ it) where
  mem := by simp
  obj := fun i h st b hb => by
    obtain ⟨⟨old, he⟩, ⟨o, ho, hc, hd⟩, _⟩ := st
    have e' : b = e ∨ b = it := by simpa using hb
    rcases e' with z | z
    · rw [z]; exact ⟨_, he, fun v q => nomatch q⟩
    · rw [z]; exact ⟨o, ho, fun v q => by rw [hd] at q; cases q⟩
  keep := fun i h h' st k => let ⟨⟨old, he⟩, hi, hne⟩ := st; ⟨⟨old, k e (by simp) _ he⟩, hi.at fun o q => k it (by simp) o q, hne⟩
  item := by
    intro X hP hw hK hc i pins s σ H E I hf st hg
    subst hP hw hK
    obtain ⟨⟨old, he⟩, hit, hne, hae, hai⟩ := st
    obtain ⟨xs, x, hq, hx⟩ := hg
    obtain ⟨its, rv, p, hz⟩ := I.tuple hq
    obtain ⟨u, hu, ru⟩ := rv.get hx
    have hel : e < s.heap.objs.size := Heap.lt_size he
    have hil : it < s.heap.objs.size := by obtain ⟨_, q, _⟩ := hit; exact Heap.lt_size q
    have hta : s.heap.IsTuple a its.toArray := p
    have hlt : i < its.toArray.size := by
      obtain ⟨h1, _⟩ := List.getElem?_eq_some_iff.mp hu
      simpa using h1
    refine wpAny_pyNext_enum_itemD (Draws.tuple (A := X.A.in1) (show X.A.in1.handled = none from I.ok.hd hc) it a hai its.toArray) he ⟨hit, hta⟩ hlt hne (by simp; exact ⟨hne, fun z => hae z.symm⟩) fun x' h' tk hx' ho hit' hT hsz hk => ?_
    have ex : x' = u := by
      have h2 : its.toArray[i]? = some x' := hx'
      rw [show its.toArray[i]? = some u by simpa using hu] at h2
      cases h2; rfl
    subst ex
    refine ⟨_, rfl, wpAny_letOwnedTupleGo_enum (s := { s with heap := h', toks := tk + 1 }) ho fun h'' he' sb => ?_⟩
    have hT2 : h''.get? s.heap.objs.size = some { cls := .type "tuple", data := .seq #[.int i tk, x'] } := (sb.2 _ (Nat.ne_of_gt hel)).trans hT
    have new : ObjOk X.prog X.w (upd H s.heap.objs.size (.tup [.int (i : Nat), x])) h'' s.heap.objs.size (.tup [.int (i : Nat), x]) :=
      ⟨by show 2 ≤ sizeLine; decide, [.int i tk, x'], .cons ⟨_, rfl⟩ (.cons ru .nil), ⟨_, hT2, rfl, _, rfl⟩⟩
    have I1 : Inv X pins σ (upd H s.heap.objs.size (.tup [.int (i : Nat), x])) { s with heap := h'', toks := tk + 1 } :=
      I.turnedNew (ch := [e, it]) (fun b ob hb q => (sb.2 b (fun z => hb (by simp [z]))).trans (hk b ob (fun z => hb (by simp [z])) (fun z => hb (by simp [z])) q)) hf (Nat.le_refl _) new
    refine ⟨.ref s.heap.objs.size, _, I1, rfl, ⟨_, x, rfl, I.hok.fresh (Nat.le_refl _), rfl, fun ys hy => by rw [I.tuple_inj hy hq]; exact hx⟩, ⟨⟨x', ?_⟩, hit'.1.at fun o q => (sb.2 it (Ne.symm hne)).trans q, hne, hae, hai⟩, fun b hb => ?_⟩
    · have e1 : ((i + 1 : Nat) : Int) = (i : Int) + 1 := by omega
      rw [e1]; exact he'
    · have hb' : b < s.heap.objs.size := by
        have e' : b = e ∨ b = it := by simpa using hb
        rcases e' with z | z
        · rw [z]; exact hel
        · rw [z]; exact hil
      rw [upd_ne (Nat.ne_of_lt hb')]
      exact (hf b hb).1
  done := by
    intro X hP hw hK hc i pins s σ H E I hf st hg
    subst hP hw hK
    obtain ⟨⟨old, he⟩, hit, hne, hae, hai⟩ := st
    obtain ⟨xs, hq, hx⟩ := hg
    obtain ⟨its, rv, p, hz⟩ := I.tuple hq
    obtain ⟨f0, f1, f2, f3, f4, f5⟩ := hf it (by simp)
    have hl := rv.length
    have hta : s.heap.IsTuple a its.toArray := p
    exact wpAny_pyNext_enum_endD (draws_end (A := X.A.in1) (show X.A.in1.handled = none from I.ok.hd hc) it a its.toArray i (by simp; omega)) he ⟨rfl, hit, hta⟩ fun h' eb => ⟨rfl, I.turned (t' := s.toks) (fun b o hb q => eb b o hb q) f0 f1 f3 f4 f5⟩
  self := fun A i s Q E st h => let ⟨⟨_, he⟩, _⟩ := st; wpAny_pyIter_enum he h
def iEnumT (K : PySem.W.Frag) (ta : TA) : TI := fun σ H R => ta σ H fun vs H1 => (∃ a xs, vs = [.ref a] ∧ SqL K H1 a xs ∧ R (Ite K a) H1) ∨ ∃ a xs, vs = [.ref a] ∧ SqT K H1 a xs ∧ R (IteT K a) H1
theorem pi_enumT {X : Cx} {e : Expr} {ta : TA} {p pos tpos : Pos} {elts : List Expr} {kk : Nat} (hg : Gl X "enumerate") (hm : X.mg "enumerate" = none) (ha : PA X [e] ta) (hs : starEach [e] X.env = [(false, eval e X.env)] := by rfl) :
    PI X (.Tuple elts kk tpos) (.Call (.Name "enumerate" p) [e] [] pos) (iEnumT X.K ta) := by
  refine ⟨fun pins s σ H R I h => ?_⟩
  refine Call_ (ld_blt I hg hm boot_enumerate (PyProof.Rows.callWith_type1 (thn (ha.run pos pins s σ H _ I h) fun us s1 ⟨vs, H1, I1, r1, q1⟩ => ?_) hs rfl))
  rcases q1 with ⟨a, xs, ex, hq, q⟩ | ⟨a, xs, ex, hq, q⟩
  · subst ex
    cases r1 with
    | cons r rr =>
      cases rr
      cases r
      obtain ⟨its, rv, p', hz⟩ := I1.list hq
      refine call_enumerate_list p'.isList fun h' he hit hsz hk => wpAny_pyIter_enum he ?_
      have I2 : Inv X pins σ H1 { s1 with heap := h' } := I1.kept (t' := s1.toks) hk
      refine ⟨s1.heap.objs.size + 1, [s1.heap.objs.size + 1, s1.heap.objs.size], _, _, H1, rfl, I2, turn_enum a (s1.heap.objs.size + 1) s1.heap.objs.size, ⟨⟨.none, he⟩, hit, Nat.succ_ne_self _⟩, fun b hb => ?_, q⟩
      have e' : b = s1.heap.objs.size + 1 ∨ b = s1.heap.objs.size := by simpa using hb
      have hle : s1.heap.objs.size ≤ b := by
        rcases e' with z | z
        · rw [z]; exact Nat.le_add_right _ _
        · rw [z]; exact Nat.le_refl _
      exact I1.fpOk hle (I1.hok.fresh hle)
  · subst ex
    cases r1 with
    | cons r rr =>
      cases rr
      cases r
      obtain ⟨its, rv, p', hz⟩ := I1.tuple hq
      have hta : s1.heap.IsTuple a its.toArray := p'
      have hal : a < s1.heap.objs.size := by obtain ⟨_, q, _⟩ := hta; exact Heap.lt_size q
      refine call_enum1 (begins_tuple a its.toArray) hta fun h' he hit hsz hk => wpAny_pyIter_enum he ?_
      have I2 : Inv X pins σ H1 { s1 with heap := h' } := I1.kept (t' := s1.toks) hk
      refine ⟨s1.heap.objs.size + 1, [s1.heap.objs.size + 1, s1.heap.objs.size], _, _, H1, rfl, I2, turn_enumT a (s1.heap.objs.size + 1) s1.heap.objs.size, ⟨⟨.none, he⟩, ⟨_, hit, rfl, rfl⟩, Nat.succ_ne_self _, Nat.ne_of_lt (Nat.lt_succ_of_lt hal), Nat.ne_of_lt hal⟩, fun b hb => ?_, q⟩
      have e' : b = s1.heap.objs.size + 1 ∨ b = s1.heap.objs.size := by simpa using hb
      have hle : s1.heap.objs.size ≤ b := by
        rcases e' with z | z
        · rw [z]; exact Nat.le_add_right _ _
        · rw [z]; exact Nat.le_refl _
      exact I1.fpOk hle (I1.hok.fresh hle)
theorem itOk_enumT {K : Frag} {g : Gh} {H : Hp} {ds : List D} {q : Addr} {vs : List V} (e2 : SqT K H q vs) (e3 : RDs K g H ds vs) : ItOk K g H (IteT K q) (enD ds, none) := by
  intro g1 H1 s1 st R1 _
  have n1 := st.toStp0.sqT e2
  have n2 := RDs.mono st.toStp0 _ _ e3
  refine ⟨⟨vs, n1, by show vs.length ≤ (enD ds).length; unfold enD; rw [List.length_map, List.length_zipIdx, n2.length]; exact Nat.le_refl _⟩, fun i d ei => ?_⟩
  have ei : (enD ds)[i]? = some d := ei
  unfold enD at ei
  rw [List.getElem?_map, List.getElem?_zipIdx] at ei
  obtain ⟨pr, hp, rfl⟩ := Option.map_eq_some_iff.mp ei
  obtain ⟨d', hd, rfl⟩ := Option.map_eq_some_iff.mp hp
  obtain ⟨v, hv, rv⟩ := n2.get hd
  refine ⟨⟨vs, v, n1, hv⟩, fun x H2 y => ?_⟩
  obtain ⟨T, x', rfl, hT, rfl, y⟩ := y
  have ev := y vs n1
  rw [hv] at ev
  cases ev
  have st2 := stp_new (o := .tup [.int (i : Nat), v]) R1 hT
  refine ⟨g1, st2, R1.new hT, T, _, rfl, upd_same, .cons ?_ (.cons (RD.mono st2.toStp0 _ _ rv) .nil)⟩
  show V.int _ = V.int _
  simp
def enIt2 (x : D) (s : S) : R Itm := match x with
  | .tup ds => .ok (enD ds, none) s
  | .ct ds => .ok (enD ds, none) s
  | _ => enIt x s
def enItM2 (m : ME D) : ME Itm := fun env s => bd (m env s) enIt2
section
variable {X : Cx} {W : WX} {a : Expr} {ma : ME D}
theorem pi_en2 {p pos tpos : Pos} {elts : List Expr} {kk : Nat} (hg : Gl X "enumerate") (hm : X.mg "enumerate" = none) (hs : starEach [a] X.env = (false, eval a X.env) :: starEach [] X.env) (ha : PX X W a ma) :
    PIX X W (.Tuple elts kk tpos) (.Call (.Name "enumerate" p) [a] [] pos) (enItM2 ma) := by
  have hpl : PL X W [a] (consM ma nilM) := pl_cons hs ha pl_nil
  refine PI.imp (pi_enumT hg hm hpl hs) fun σ H Q h => ?_
  have h' : TX X.K W (RDs X.K) (consM ma nilM) σ H (fun vs H1 => (∃ a xs, vs = [.ref a] ∧ SqL X.K H1 a xs ∧ Q (Ite X.K a) H1) ∨ ∃ a xs, vs = [.ref a] ∧ SqT X.K H1 a xs ∧ Q (IteT X.K a) H1) := by
    obtain ⟨g, s, env, R, E, q⟩ := h
    refine ⟨g, s, env, R, E, ?_⟩
    have q : Post X.K W g H σ (fun g H im J => ItOk X.K g H J im) (bd (ma env s) enIt2) Q := q
    unfold consM nilM
    cases hm : ma env s with
    | ok x s1 =>
      rw [hm] at q
      intro g1 H1 vs st R1 r
      obtain ⟨v, us, rfl, r1, r2⟩ := r
      cases r2
      have q : Post X.K W g H σ (fun g H im J => ItOk X.K g H J im) (enIt2 x s1) Q := q
      have lst : Post X.K W g H σ (fun g H im J => ItOk X.K g H J im) (enIt x s1) Q → (∃ a xs, [v] = [.ref a] ∧ SqL X.K H1 a xs ∧ Q (Ite X.K a) H1) ∨ ∃ a xs, [v] = [.ref a] ∧ SqT X.K H1 a xs ∧ Q (IteT X.K a) H1 := by
        intro q
        unfold enIt at q
        cases e : lstOf x s1 with
        | none => rw [e] at q; exact q.elim
        | some ds =>
          rw [e] at q
          obtain ⟨p, vs, rfl, e2, e3⟩ := lst_ok R1 r1 e
          exact .inl ⟨p, vs, rfl, e2, q g1 H1 _ st R1 (itOk_enum r1 e)⟩
      have tp : ∀ {ds : List D} {q' : Addr} {vs : List V}, v = .ref q' → SqT X.K H1 q' vs → RDs X.K g1 H1 ds vs → Post X.K W g H σ (fun g H im J => ItOk X.K g H J im) (.ok (enD ds, none) s1) Q → (∃ a xs, [v] = [.ref a] ∧ SqL X.K H1 a xs ∧ Q (Ite X.K a) H1) ∨ ∃ a xs, [v] = [.ref a] ∧ SqT X.K H1 a xs ∧ Q (IteT X.K a) H1 := by
        intro ds q' vs ev e2 e3 p1
        subst ev
        exact .inr ⟨q', vs, rfl, e2, p1 g1 H1 _ st R1 (itOk_enumT e2 e3)⟩
      cases x with
      | tup ds =>
        obtain ⟨p, us, ep, h1, h2⟩ := r1
        exact tp ep (.of h1) h2 q
      | ct ds =>
        obtain ⟨p, us, ep, h1, h2⟩ := r1
        exact tp ep h1.tup h2 q
      | _ => exact lst q
    | exc c fs s1 => rw [hm] at q; exact q
    | bad => rw [hm] at q; exact q
  exact h'
end
/-! ### y = {k: v for ..} on one line -/
theorem ps_setDcA {X : Cx} {i : Nat} {y : Str} {py : Pos} {kx vx tg iter : Expr} {ifs : List Expr} {scope : Scope} {own : List (Str × Nat)} {pos spos : Pos} {wi : TI} {g : TG} {tt : TT} {tk tv : TE} (hc : X.calm = true) (hN : X.N.Nodup) (hy : X.N[i]? = some y) (hyl : X.env.scope.names.lookup y = some .local)
    (hsw : swapsWith (.DictComp kx vx [⟨tg, iter, ifs, 0⟩] scope pos) (some (.Name y py)) spos.line X.env = pure true) (hi : PI X tg iter wi) (ok : BlkOk X.N X.env.scope scope own)
    (hg : ∀ (s : Shared) (H : Hp) (C : Addr) (cl : List (Str × Addr)) (fp : List Addr), PG (X.blk s H scope (compEnvC scope cl C X.env) fp) tg g) (ht : ∀ (s : Shared) (H : Hp) (C : Addr) (cl : List (Str × Addr)) (fp : List Addr), PTs (X.blk s H scope (compEnvC scope cl C X.env) fp) ifs tt)
    (hk : ∀ (s : Shared) (H : Hp) (C : Addr) (cl : List (Str × Addr)) (fp : List Addr), PE (X.blk s H scope (compEnvC scope cl C X.env) fp) kx tk)
    (he : ∀ (s : Shared) (H : Hp) (C : Addr) (cl : List (Str × Addr)) (fp : List Addr), PE (X.blk s H scope (compEnvC scope cl C X.env) fp) vx tv) (hs : ∀ x, foldedSetIterable iter X.env x = pure x) :
    PS X (.Assign [.Name y py] (.DictComp kx vx [⟨tg, iter, ifs, 0⟩] scope pos) spos) (tAsg (tDc wi g tt tk tv (own.map (·.2))) (gName i)) := by
  refine ⟨fun pins s σ H D I h => ?_⟩
  rw [exec_Assign_Name_used _ _ _ _ hsw]
  refine wpAny_bind (wpAny_standAt (wpAny_bind ?_))
  show wpAny _ X.A (do let _ ← comprehension (.DictComp kx vx [⟨tg, iter, ifs, 0⟩] scope pos) scope X.env (firstIterPos [⟨tg, iter, ifs, 0⟩] pos) newDict false (eval iter X.env) (some (assign (.Name y py) X.env))) _ _ s
  have h : tDc wi g tt tk tv (own.map (·.2)) σ H (fun x H1 => gName i x σ H1 D.nx) := h
  refine wpAny_bind (thn (dc_core (Qf := fun _ s' => SP X pins D .next s') hc hN I hi ok hg ht hk he hs h fun L C s' m H' I' q hn f => ?_) fun _ s' hq => wpAny_pure (wpAny_pure hq))
  show wpAny _ _ (assign (.Name y py) X.env (.ref L)) _ _ _
  refine wpAny_assign_Name (store_ok2 (v := V.ref L) I' hN hy (.inl hyl) rfl (fun s2 I2 ⟨a, sb, ha⟩ => ?_) (.inr hyl))
  obtain ⟨f0, f1, f2, f3, f4, f5⟩ := f
  have haC : C ≠ a := by
    rcases ha with z | z
    · rw [z]; exact f1
    · exact fun e => f4 y a z e.symm
  refine ⟨m, hn.sameBut sb haC, fun h3 sb3 => ?_⟩
  exact ⟨_, H', I2.turned (t' := s2.toks) (fun b o hb e => (sb3.2 b hb).trans e) f0 f1 f3 f4 f5, q⟩
section
variable {X : Cx} {W : WX} {tg iter kx vx : Expr} {ifs : List Expr} {scope : Scope} {own : List (Str × Nat)} {pos : Pos} {t : Tg} {it : ME Itm} {tst : ME Bool} {ek ev : ME D}
theorem ps_setDc' {m : Bool} {i : Nat} {y : Str} {py spos : Pos} (hc : X.calm = true) (hN : X.N.Nodup) (hy : X.N[i]? = some y) (hyl : X.env.scope.names.lookup y = some .local)
    (hsw : swapsWith (.DictComp kx vx [⟨tg, iter, ifs, 0⟩] scope pos) (some (.Name y py)) spos.line X.env = pure true) (ok : BlkOk X.N X.env.scope scope own) (hsl : ∀ i ∈ slots t, i ∈ own.map (·.2)) (hs : ∀ x, foldedSetIterable iter X.env x = pure x) (hi : PIX X W tg iter it)
    (hg : ∀ (s : Shared) (H : Hp) (C : Addr) (cl : List (Str × Addr)) (fp : List Addr), PGX (X.blk s H scope (compEnvC scope cl C X.env) fp) tg t) (ht : ∀ (s : Shared) (H : Hp) (C : Addr) (cl : List (Str × Addr)) (fp : List Addr), PTX (X.blk s H scope (compEnvC scope cl C X.env) fp) ifs tst)
    (hk : ∀ (s : Shared) (H : Hp) (C : Addr) (cl : List (Str × Addr)) (fp : List Addr), PX (X.blk s H scope (compEnvC scope cl C X.env) fp) W0 kx ek)
    (he : ∀ (s : Shared) (H : Hp) (C : Addr) (cl : List (Str × Addr)) (fp : List Addr), PX (X.blk s H scope (compEnvC scope cl C X.env) fp) W0 vx ev) :
    PSX X W (.Assign [.Name y py] (.DictComp kx vx [⟨tg, iter, ifs, 0⟩] scope pos) spos) (setM i (dcM m t it (own.map (·.2)) tst ek ev)) := by
  refine PS.imp (ps_setDcA (wi := TI' X.K W it) (g := gtOf X.K t) (tt := TT' X.K W0 tst) (tk := TE' X.K W0 ek) (tv := TE' X.K W0 ev) hc hN hy hyl hsw hi ok hg ht hk he hs) fun σ H D h => ?_
  have h2 := TS'.bind (rel := RD X.K) h
  exact dc_reads (m := m) hsl σ H _ (h2.imp fun v H1 ⟨g1, d, s1, env, R1, E1, r1, p1⟩ => p1 g1 H1 _ (.refl _ _) R1 (E1.set i r1))
end
end Co
namespace Co
open PySem PySem.Spec PyProof.Rows L2
/-! ### dict(zip(t, u)), two tuples -/
section
variable {prog : Program} {w : World} {A : Around} {E : Value → Shared → Prop} {s : Shared} {z TI TO T i1 i2 l1 l2 : Addr} {f : Bool} {oT : Obj} {k1 k2 : Nat} {xs ys : Array Value}
/-- the zip's state while the last pair is held: both iterators over tuples -/
structure ZpH (h : Heap) (z TI TO T i1 i2 l1 l2 : Addr) (f : Bool) (k1 k2 : Nat) (xs ys : Array Value) : Prop where
  hz : IsZipHeld h z TI TO T f
  hI : IsPair h TI (.ref i1) (.ref i2)
  n1 : h.IsTupleIter i1 l1 k1
  n2 : h.IsTupleIter i2 l2 k2
  t1 : h.IsTuple l1 xs
  t2 : h.IsTuple l2 ys
theorem zpT_item {oT : Obj} {x y : Value} {Q : Value → Shared → Prop} (D : ZipApart z TI TO i1 i2 l1 l2) (S : ZpH s.heap z TI TO T i1 i2 l1 l2 f k1 k2 xs ys) (hT : s.heap.get? T = some oT) (hx : xs[k1]? = some x) (hy : ys[k2]? = some y)
    (hQ : ∀ h', IsZipHeld h' z TI TO T true → h'.IsTupleIter i1 l1 (k1 + 1) → h'.IsTupleIter i2 l2 (k2 + 1) → IsPair h' s.heap.objs.size x y → (∀ c o, c ≠ z → c ≠ i1 → c ≠ i2 → s.heap.get? c = some o → h'.get? c = some o) → Q (.ref s.heap.objs.size) { s with heap := h' }) :
    wpAny (model prog w) A (Builtin.«zip.__next__» ⟨[.ref z], []⟩) (fun fin s' => ∃ v, fin = .done (.ret v) ∧ Q v s') E s := by
  obtain ⟨hz, hI, n1, n2, t1, t2⟩ := S
  refine wpAny_bind (m := field (.ref z) 2) (wpAny_field hz rfl (x := .bool false) rfl ?_)
  refine wpAny_bind (m := field (.ref z) 3) (wpAny_field hz rfl (x := .ref TI) rfl ?_)
  refine wpAny_bind (wpAny_seqItems hI rfl ?_)
  refine wpAny_bind (m := Builtin.SmallTypes.ownedTupleIsFree (.ref z)) (wpAny_tupleHeld_zip hz hT fun ha za ka => ?_)
  simp only [Bool.false_eq_true, if_false]
  refine wpAny_bind ?_
  rw [← Array.forIn_toList]; simp only [List.forIn_cons, List.forIn_nil]
  refine wpAny_bind (wpAny_bind (wpAny_holding (wpAny_bind (m := Builtin.SmallTypes.nextOf (.ref i1)) (RZ.nextOf_tuple_item (s := { s with heap := ha }) (n1.extBut ka.extBut D.i1z) (t1.extBut ka.extBut D.l1z) hx fun hb nb kb => wpAny_pure (wpAny_pure ?_)))))
  refine wpAny_bind (wpAny_bind (wpAny_holding (wpAny_bind (m := Builtin.SmallTypes.nextOf (.ref i2)) (RZ.nextOf_tuple_item (s := { s with heap := hb }) ((n2.extBut ka.extBut D.i2z).extBut kb.extBut D.i12.symm) ((t2.extBut ka.extBut D.l2z).extBut kb.extBut D.l2i1) hy fun hc nc kc => wpAny_pure (wpAny_pure (wpAny_pure ?_))))))
  refine wpAny_bind (m := newTuple [x, y]) (wpAny_newTuple (wpAny_pure ⟨_, rfl, ?_⟩))
  have sz : hc.objs.size = s.heap.objs.size := by rw [kc.1, kb.1, ka.1]
  have zc : IsZipHeld hc z TI TO T true := kc.extBut _ _ D.i2z.symm (kb.extBut _ _ D.i1z.symm za)
  have keep : ∀ c o, c ≠ z → c ≠ i1 → c ≠ i2 → s.heap.get? c = some o → hc.get? c = some o := fun c o c1 c2 c3 e => kc.extBut _ _ c3 (kb.extBut _ _ c2 (ka.extBut _ _ c1 e))
  have pr : IsPair (hc.push { cls := .type "tuple", data := .seq #[x, y] }) hc.objs.size x y := Heap.get?_push_size _ rfl
  show Q (.ref hc.objs.size) _
  rw [sz] at pr ⊢
  exact hQ _ (Heap.get?_push_of_some _ zc) ((nb.extBut kc.extBut D.i12).at fun o e => Heap.get?_push_of_some _ e) (nc.at fun o e => Heap.get?_push_of_some _ e) pr fun c o c1 c2 c3 e => Heap.get?_push_of_some _ (keep c o c1 c2 c3 e)
theorem zpT_end {Q : Fin → Shared → Prop} (hh : A.handled = none) (D : ZipApart z TI TO i1 i2 l1 l2) (S : ZpH s.heap z TI TO T i1 i2 l1 l2 f k1 k2 xs ys) (hT : s.heap.get? T = some oT) (hend : xs[k1]? = none ∨ ys[k2]? = none)
    (hE : ∀ h' e, (∀ c o, c ≠ z → c ≠ i1 → c ≠ i2 → s.heap.get? c = some o → h'.get? c = some o) → (∃ o, h'.get? e = some o ∧ o.cls = .type "StopIteration") → E (.ref e) { s with heap := h' }) :
    wpAny (model prog w) A (Builtin.«zip.__next__» ⟨[.ref z], []⟩) Q E s := by
  obtain ⟨hz, hI, n1, n2, t1, t2⟩ := S
  refine wpAny_bind (m := field (.ref z) 2) (wpAny_field hz rfl (x := .bool false) rfl ?_)
  refine wpAny_bind (m := field (.ref z) 3) (wpAny_field hz rfl (x := .ref TI) rfl ?_)
  refine wpAny_bind (wpAny_seqItems hI rfl ?_)
  refine wpAny_bind (m := Builtin.SmallTypes.ownedTupleIsFree (.ref z)) (wpAny_tupleHeld_zip hz hT fun ha za ka => ?_)
  simp only [Bool.false_eq_true, if_false]
  refine wpAny_bind ?_
  rw [← Array.forIn_toList]; simp only [List.forIn_cons, List.forIn_nil]
  cases hx : xs[k1]? with
  | none =>
    refine wpAny_bind (wpAny_bind (wpAny_holding (wpAny_bind (m := Builtin.SmallTypes.nextOf (.ref i1)) (RZ.nextOf_tuple_end (s := { s with heap := ha }) hh (n1.extBut ka.extBut D.i1z) (t1.extBut ka.extBut D.l1z) hx fun hb e kb he => ?_))))
    exact hE hb e (fun c o c1 c2 _ q => kb _ _ c2 (ka.extBut _ _ c1 q)) he
  | some x =>
    have hy : ys[k2]? = none := hend.elim (fun h => by rw [hx] at h; cases h) id
    refine wpAny_bind (wpAny_bind (wpAny_holding (wpAny_bind (m := Builtin.SmallTypes.nextOf (.ref i1)) (RZ.nextOf_tuple_item (s := { s with heap := ha }) (n1.extBut ka.extBut D.i1z) (t1.extBut ka.extBut D.l1z) hx fun hb nb kb => wpAny_pure (wpAny_pure ?_)))))
    refine wpAny_bind (wpAny_bind (wpAny_holding (wpAny_bind (m := Builtin.SmallTypes.nextOf (.ref i2)) (RZ.nextOf_tuple_end (s := { s with heap := hb }) hh ((n2.extBut ka.extBut D.i2z).extBut kb.extBut D.i12.symm) ((t2.extBut ka.extBut D.l2z).extBut kb.extBut D.l2i1) hy fun hc e kc he => ?_))))
    exact hE hc e (fun c o c1 c2 c3 q => kc _ _ c3 (kb.extBut _ _ c2 (ka.extBut _ _ c1 q))) he
theorem zpT_next {x y : Value} {Q : Option Value → Shared → Prop} (D : ZipApart z TI TO i1 i2 l1 l2) (S : ZpH s.heap z TI TO T i1 i2 l1 l2 f k1 k2 xs ys) (hT : s.heap.get? T = some oT) (hx : xs[k1]? = some x) (hy : ys[k2]? = some y)
    (hQ : ∀ h', IsZipHeld h' z TI TO T true → h'.IsTupleIter i1 l1 (k1 + 1) → h'.IsTupleIter i2 l2 (k2 + 1) → IsPair h' s.heap.objs.size x y → (∀ c o, c ≠ z → c ≠ i1 → c ≠ i2 → s.heap.get? c = some o → h'.get? c = some o) → Q (some (.ref s.heap.objs.size)) { s with heap := h' }) :
    wpAny (model prog w) A (pyNext (.ref z)) Q E s := by
  have ty : s.TypeIs (.ref z) "zip" := ⟨_, S.hz, rfl⟩
  unfold pyNext
  exact wpAny_bind (wpAny_attempt (wpAny_callSpecial?_slot (name := Str.ofString "__next__") ty F.slot_zip_next (wpAny_call_entry F.slot_zip_next ty F.entry_zip_next (zpT_item D S hT hx hy fun h' b1 b2 b3 b4 b5 => wpAny_pure (hQ h' b1 b2 b3 b4 b5)) (F.args_zip_next_1 _))))
theorem zpT_stop {Q : Option Value → Shared → Prop} (hh : A.handled = none) (D : ZipApart z TI TO i1 i2 l1 l2) (S : ZpH s.heap z TI TO T i1 i2 l1 l2 f k1 k2 xs ys) (hT : s.heap.get? T = some oT) (hend : xs[k1]? = none ∨ ys[k2]? = none)
    (hQ : ∀ h', (∀ c o, c ≠ z → c ≠ i1 → c ≠ i2 → s.heap.get? c = some o → h'.get? c = some o) → Q none { s with heap := h' }) : wpAny (model prog w) A (pyNext (.ref z)) Q E s := by
  have ty : s.TypeIs (.ref z) "zip" := ⟨_, S.hz, rfl⟩
  unfold pyNext
  refine wpAny_bind (wpAny_attempt (wpAny_callSpecial?_slot (name := Str.ofString "__next__") ty F.slot_zip_next (wpAny_call_entry F.slot_zip_next ty F.entry_zip_next (zpT_end hh D S hT hend fun h' e hk he => ?_) (F.args_zip_next_1 _))))
  obtain ⟨o, ho, hc⟩ := he
  exact wpAny_bind (wpAny_isInstance (T := "StopIteration") (b := true) ⟨o, ho, hc⟩ isSubtype_stop (wpAny_pure (hQ _ hk)))
end
/-- zip(t, u) as what dict() is given -/
theorem zpT_arg {prog : Program} {w : World} (z TI TO i1 i2 l1 l2 : Addr) (D : ZipApart z TI TO i1 i2 l1 l2) (xs ys : Array Value) :
    PairArg prog w "zip" z [z, TI, TO, i1, i2, l1, l2] [z, TO, i1, i2] (min xs.size ys.size) (fun i k v => xs[i]? = some k ∧ ys[i]? = some v)
      (fun h => IsZip h z TI TO .none ∧ IsPair h TI (.ref i1) (.ref i2) ∧ (∃ a b, IsPair h TO a b) ∧ h.IsTupleIter i1 l1 0 ∧ h.IsTupleIter i2 l2 0 ∧ h.IsTuple l1 xs ∧ h.IsTuple l2 ys) where
  type := fun s ok => ⟨_, ok.1, rfl⟩
  notDict := by decide
  keep := fun h h' ⟨b1, b2, ⟨p, q, b3⟩, b4, b5, b6, b7⟩ hk => ⟨hk _ _ b1, hk _ _ b2, ⟨p, q, hk _ _ b3⟩, b4.at fun o e => hk _ o e, b5.at fun o e => hk _ o e, b6.at fun o e => hk _ o e, b7.at fun o e => hk _ o e⟩
  there := fun h ok b hb => by
    obtain ⟨b1, b2, ⟨p, q, b3⟩, ⟨o1, b4, _⟩, ⟨o2, b5, _⟩, ⟨o3, b6, _⟩, ⟨o4, b7, _⟩⟩ := ok
    simp only [List.mem_cons, List.not_mem_nil, or_false] at hb
    rcases hb with rfl | rfl | rfl | rfl | rfl | rfl | rfl
    · exact ⟨_, b1⟩
    · exact ⟨_, b2⟩
    · exact ⟨_, b3⟩
    · exact ⟨_, b4⟩
    · exact ⟨_, b5⟩
    · exact ⟨_, b6⟩
    · exact ⟨_, b7⟩
  sub := fun b hb => by
    simp only [List.mem_cons, List.not_mem_nil, or_false] at hb ⊢
    rcases hb with e | e | e | e
    · exact .inl e
    · exact .inr (.inr (.inl e))
    · exact .inr (.inr (.inr (.inl e)))
    · exact .inr (.inr (.inr (.inr (.inl e))))
  noKeys := fun A s Q E hA ok h => getAttrOr_miss_zip ok.1 rfl rfl rfl zip_no_keys (by decide +kernel) hA h
  iter := fun A s d Q E hA ok hd hdf h => by
    obtain ⟨b1, b2, ⟨p, q, b3⟩, b4, b5, b6, b7⟩ := ok
    simp only [List.mem_cons, List.not_mem_nil, or_false, not_or] at hdf
    obtain ⟨dz, dTI, dTO, di1, di2, dl1, dl2⟩ := hdf
    refine wpAny_pyIter_zip b1 (h z [z, TO, i1, i2] (fun i h => IsPair h TI (.ref i1) (.ref i2) ∧ h.IsTupleIter i1 l1 i ∧ h.IsTupleIter i2 l2 i ∧ h.IsTuple l1 xs ∧ h.IsTuple l2 ys ∧
      ((IsZip h z TI TO .none ∧ ∃ a b, IsPair h TO a b) ∨ ∃ T f oT, IsZipHeld h z TI TO T f ∧ h.get? T = some oT ∧ T ≠ z ∧ T ≠ i1 ∧ T ≠ i2 ∧ T ≠ d)) s.heap s.toks ?_ ⟨b2, b4, b5, b6, b7, .inl ⟨b1, p, q, b3⟩⟩ (fun _ _ e => e) fun b hb => .inl hb)
    constructor
    case off =>
      intro hm
      simp only [List.mem_cons, List.not_mem_nil, or_false] at hm
      rcases hm with e | e | e | e
      · exact dz e
      · exact dTO e
      · exact di1 e
      · exact di2 e
    case frame =>
      intro i ha hb st hk
      obtain ⟨c2, c4, c5, c6, c7, c1⟩ := st
      refine ⟨hk _ _ (Ne.symm dTI) c2, c4.at fun o e => hk _ o (Ne.symm di1) e, c5.at fun o e => hk _ o (Ne.symm di2) e, c6.at fun o e => hk _ o (Ne.symm dl1) e, c7.at fun o e => hk _ o (Ne.symm dl2) e, ?_⟩
      rcases c1 with ⟨c1, a, b, c3⟩ | ⟨T, f, oT, c1, cT, r1, r2, r3, r4⟩
      · exact .inl ⟨hk _ _ (Ne.symm dz) c1, a, b, hk _ _ (Ne.symm dTO) c3⟩
      · exact .inr ⟨T, f, oT, hk _ _ (Ne.symm dz) c1, hk _ _ r4 cT, r1, r2, r3, r4⟩
    case item =>
      intro i sa Qa Ea hi st hds hQ
      obtain ⟨c2, c4, c5, c6, c7, c1⟩ := st
      have ex := Array.getElem?_eq_getElem (show i < xs.size by omega)
      have ey := Array.getElem?_eq_getElem (show i < ys.size by omega)
      have lt : ∀ {c o}, sa.heap.get? c = some o → sa.heap.objs.size ≠ c := fun e => Nat.ne_of_gt (Heap.lt_size e)
      have m1 : sa.heap.objs.size ≠ i1 := let ⟨_, e, _⟩ := c4; lt e
      have m2 : sa.heap.objs.size ≠ i2 := let ⟨_, e, _⟩ := c5; lt e
      have off : ∀ {c : Addr}, c ∉ [z, TO, i1, i2] → c ≠ z ∧ c ≠ TO ∧ c ≠ i1 ∧ c ≠ i2 := fun hc => by simpa only [List.mem_cons, List.not_mem_nil, or_false, not_or] using hc
      rcases c1 with ⟨c1, a, b, c3⟩ | ⟨T, f, oT, c1, cT, r1, r2, r3, r4⟩
      · refine RZ.pyNext_zipT_item D c1 c2 c3 c4 c5 c6 c7 ex ey fun h' a1 a2 a3 a4 a5 a6 hk => ?_
        exact hQ sa.heap.objs.size _ _ h' sa.toks ⟨ex, ey⟩ (.inl ⟨_, a5, rfl, _, rfl⟩)
          ⟨hk _ _ D.TIz D.TITO D.TIi1 D.TIi2 c2, a3, a4, c6.at fun o e => hk _ o D.l1z D.l1TO D.l1i1 D.l1i2 e, c7.at fun o e => hk _ o D.l2z D.l2TO D.l2i1 D.l2i2 e, .inr ⟨sa.heap.objs.size, false, _, a1, a5, lt c1, m1, m2, Nat.ne_of_gt hds⟩⟩
          fun c o hc e => hk c o (off hc).1 (off hc).2.1 (off hc).2.2.1 (off hc).2.2.2 e
      · refine zpT_next D ⟨c1, c2, c4, c5, c6, c7⟩ cT ex ey fun h' a1 a3 a4 a5 hk => ?_
        exact hQ sa.heap.objs.size _ _ h' sa.toks ⟨ex, ey⟩ (.inl ⟨_, a5, rfl, _, rfl⟩)
          ⟨hk _ _ D.TIz D.TIi1 D.TIi2 c2, a3, a4, c6.at fun o e => hk _ o D.l1z D.l1i1 D.l1i2 e, c7.at fun o e => hk _ o D.l2z D.l2i1 D.l2i2 e, .inr ⟨T, true, oT, a1, hk _ _ r1 r2 r3 cT, r1, r2, r3, r4⟩⟩
          fun c o hc e => hk c o (off hc).1 (off hc).2.2.1 (off hc).2.2.2 e
    case done =>
      intro sa Qa Ea st hQ
      obtain ⟨c2, c4, c5, c6, c7, c1⟩ := st
      have off : ∀ {c : Addr}, c ∉ [z, TO, i1, i2] → c ≠ z ∧ c ≠ TO ∧ c ≠ i1 ∧ c ≠ i2 := fun hc => by simpa only [List.mem_cons, List.not_mem_nil, or_false, not_or] using hc
      have hend : xs[min xs.size ys.size]? = none ∨ ys[min xs.size ys.size]? = none := by
        by_cases q : xs.size ≤ ys.size
        · exact .inl (Array.getElem?_eq_none (by omega))
        · exact .inr (Array.getElem?_eq_none (by omega))
      rcases c1 with ⟨c1, a, b, c3⟩ | ⟨T, f, oT, c1, cT, r1, r2, r3, r4⟩
      · exact RZ.pyNext_zipT_end hA D c1 c2 c3 c4 c5 c6 c7 hend fun h' hk => hQ h' sa.toks fun c o hc e => hk c o (off hc).1 (off hc).2.1 (off hc).2.2.1 (off hc).2.2.2 e
      · exact zpT_stop hA D ⟨c1, c2, c4, c5, c6, c7⟩ cT hend fun h' hk => hQ h' sa.toks fun c o hc e => hk c o (off hc).1 (off hc).2.2.1 (off hc).2.2.2 e
/-- keys and values, paired -/
theorem zip_kv : ∀ {ks : List Key} {ys : List V} {us vs : List Value}, Vals (ks.map kV) us → Vals ys vs → ∃ prs : List (Key × Value), KV (ks.zip ys) prs ∧ prs.length = min us.length vs.length ∧ ∀ (i : Nat) (k v : Value), us[i]? = some k → vs[i]? = some v → ∃ q : Key, prs[i]? = some (q, v) ∧ RelV (kV q) k
  | [], _, _, _, .nil, _ => ⟨[], .nil, by simp, fun i k v e => by simp at e⟩
  | _ :: _, [], _, _, .cons _ _, .nil => ⟨[], .nil, by simp, fun i k v _ e => by simp at e⟩
  | q :: ks, y :: ys, _, _, .cons (b := u) h t, .cons (b := v) h' t' => by
    obtain ⟨prs, p1, p2, p3⟩ := zip_kv t t'
    refine ⟨(q, v) :: prs, .cons ⟨rfl, h'⟩ p1, by simp [p2], fun i k x e1 e2 => ?_⟩
    cases i with
    | zero => cases e1; cases e2; exact ⟨q, rfl, h⟩
    | succ i => exact p3 i k x e1 e2
def tDzip (K : Frag) (ta : TA) : TE := fun σ H Q => ta σ H fun vs H1 => ∃ (a b : Addr) (ks : List Key) (ys : List V), vs = [.ref a, .ref b] ∧ SqT K H1 a (ks.map kV) ∧ SqT K H1 b ys ∧ ∀ p, H1 p = none → Q (.ref p) (upd H1 p (.dK (mergeK [] (ks.zip ys))))
theorem pe_dzip {X : Cx} {e e2 : Expr} {ta : TA} {p p2 q pos : Pos} (hcalm : X.calm = true) (hg : Gl X "dict") (hm : X.mg "dict" = none) (hg2 : Gl X "zip") (hm2 : X.mg "zip" = none) (ha : PA X [e, e2] ta)
    (hs : starEach [e, e2] X.env = (false, eval e X.env) :: starEach [e2] X.env) (hpl : (backTo q (starEach [e2] X.env)).any (·.1) = false)
    (hn : starEach [Expr.Call (.Name "zip" p2) [e, e2] [] q] X.env = (false, eval (Expr.Call (.Name "zip" p2) [e, e2] [] q) X.env) :: starEach [] X.env) :
    PE X (.Call (.Name "dict" p) [.Call (.Name "zip" p2) [e, e2] [] q] [] pos) (tDzip X.K ta) := by
  refine ⟨fun pins s σ H Q I h => ?_⟩
  refine Call_ (ld_blt I hg hm PyProof.Rows.boot_dict (PyProof.Rows.callWith_type1 (args_cons ?_ hn) hn rfl))
  refine Call_ (ld_blt I hg2 hm2 PyProof.Rows.boot_zip (PyProof.Rows.callWith_type1 (thn (ha.run q pins s σ H _ I h) fun us s1 ⟨vs, H1, I1, r1, a, b, ks, ys, ev, t1, t2, q1⟩ => ?_) hs hpl))
  subst ev
  cases r1 with
  | cons r rr =>
  cases rr with
  | cons r' rr =>
  cases rr; cases r; cases r'
  obtain ⟨its, v1, g1, z1⟩ := I1.tuple t1
  obtain ⟨its2, v2, g2, z2⟩ := I1.tuple t2
  have ha' : a < s1.heap.objs.size := let ⟨_, e, _⟩ := g1; Heap.lt_size e
  have hb' : b < s1.heap.objs.size := let ⟨_, e, _⟩ := g2; Heap.lt_size e
  have T1 : s1.heap.IsTuple a its.toArray := g1
  have T2 : s1.heap.IsTuple b its2.toArray := g2
  refine RZ.call_zipT T1 T2 fun h' hz hTI hTO n1 n2 hsz hk => args_nil ?_
  obtain ⟨prs, kv, pl, pr⟩ := zip_kv v1 v2
  have I2 : Inv X pins σ H1 { s1 with heap := h' } := I1.kept (t' := s1.toks) hk
  have l1 := v1.length
  rw [List.length_map] at l1 z1
  have nz : min its.toArray.size its2.toArray.size ≤ sizeLine := by rw [List.size_toArray, ← l1]; omega
  have hmod : (h'.objs.size == sysModules) = false := beq_eq_false_iff_ne.mpr (Nat.ne_of_gt I2.big)
  have mlen : (mergeK [] (ks.zip ys)).length ≤ sizeLine := by
    have q := length_mergeK (ks.zip ys) []
    rw [List.length_nil, Nat.zero_add, List.length_zip] at q
    omega
  refine PySem.call_dict_pairs (s := { s1 with heap := h' }) (knd := mixKind X.prog X.w) (kvs := prs) (zpT_arg _ _ _ _ _ _ _ (PySem.W.ktu_apart s1.heap.objs.size a b ha' hb') its.toArray its2.toArray) (I2.ok.hd hcalm)
    ⟨hz, hTI, ⟨_, _, hTO⟩, n1, n2, T1.at fun o e => hk _ o e, T2.at fun o e => hk _ o e⟩ ⟨by rw [pl]; simp, fun i k v ⟨e1, e2⟩ => ?_⟩ nz fun h2 tk hd2 kp => ?_
  · obtain ⟨q, e3, e4⟩ := pr i k v (by simpa using e1) (by simpa using e2)
    exact ⟨q, e3, kV_is e4⟩
  · have off : ∀ c o, s1.heap.get? c = some o → h2.get? c = some o := fun c o e => kp c o (fun hm => by
      have hc := Heap.lt_size e
      simp only [List.mem_cons, List.not_mem_nil, or_false] at hm
      rcases hm with rfl | rfl | rfl | rfl
      · exact Nat.not_lt.mpr (Nat.le_add_right s1.heap.objs.size 4) hc
      · exact Nat.not_lt.mpr (Nat.le_add_right s1.heap.objs.size 3) hc
      · exact Nat.lt_irrefl _ hc
      · exact Nat.not_lt.mpr (Nat.le_add_right s1.heap.objs.size 1) hc) (hk c o e)
    have big : s1.heap.objs.size ≤ h'.objs.size := by rw [hsz]; exact Nat.le_add_right _ _
    exact ⟨.ref h'.objs.size, upd H1 h'.objs.size (.dK (mergeK [] (ks.zip ys))), I1.laid (t' := tk) off big (show ObjOk X.prog X.w _ _ _ (.dK (mergeK [] (ks.zip ys))) from ⟨mlen, hmod, merged [] prs, KV.merge kv .nil, hd2⟩), rfl, q1 _ (I1.hok.fresh big)⟩
def tplOf : D → Option (List D)
  | .tup ds => some ds
  | .ct ds => some ds
  | _ => none
theorem tpl_ok {K : Frag} {g : Gh} {H : Hp} {d : D} {ds : List D} {v : V} (r : RD K g H d v) (e : tplOf d = some ds) : ∃ p vs, v = .ref p ∧ SqT K H p vs ∧ RDs K g H ds vs := by
  cases d with
  | tup xs => cases e; obtain ⟨p, us, ep, h1, h2⟩ := r; exact ⟨p, us, ep, .of h1, h2⟩
  | ct xs => cases e; obtain ⟨p, us, ep, h1, h2⟩ := r; exact ⟨p, us, ep, h1.tup, h2⟩
  | _ => cases e
def dzipF (ds : List D) (s : S) : R D := match ds with
  | [x, y] => match tplOf x, tplOf y with
    | some xs, some ys => match keysOf xs with
      | some ks => .ok (.ref s.next) (s.alloc (.dK (mergeD [] (ks.zip ys))))
      | none => .bad
    | _, _ => .bad
  | _ => .bad
theorem zip_rel {K : Frag} {g : Gh} {H : Hp} : ∀ {ks : List Key} {ys : List D} {vs : List V}, RDs K g H ys vs → (ks.zip vs).map (·.1) = (ks.zip ys).map (·.1) ∧ RDs K g H ((ks.zip ys).map (·.2)) ((ks.zip vs).map (·.2))
  | [], _, _, _ => ⟨rfl, rfl⟩
  | k :: ks, [], _, r => by cases r; exact ⟨rfl, rfl⟩
  | k :: ks, y :: ys, _, r => by
    obtain ⟨v, us, rfl, h1, h2⟩ := r
    obtain ⟨q1, q2⟩ := zip_rel (ks := ks) h2
    exact ⟨by simp only [List.zip_cons_cons, List.map_cons, q1], .cons h1 q2⟩
theorem px_dzip {X : Cx} {W : WX} {e e2 : Expr} {mes : ME (List D)} {p p2 q pos : Pos} (hcalm : X.calm = true) (hg : Gl X "dict") (hm : X.mg "dict" = none) (hg2 : Gl X "zip") (hm2 : X.mg "zip" = none) (h : PL X W [e, e2] mes)
    (hs : starEach [e, e2] X.env = (false, eval e X.env) :: starEach [e2] X.env) (hpl : (backTo q (starEach [e2] X.env)).any (·.1) = false)
    (hn : starEach [Expr.Call (.Name "zip" p2) [e, e2] [] q] X.env = (false, eval (Expr.Call (.Name "zip" p2) [e, e2] [] q) X.env) :: starEach [] X.env) :
    PX X W (.Call (.Name "dict" p) [.Call (.Name "zip" p2) [e, e2] [] q] [] pos) (argM dzipF mes) := by
  refine PE.imp (pe_dzip hcalm hg hm hg2 hm2 h hs hpl hn) fun σ H Q hq => (TX.bind (rel := RDs X.K) hq).imp fun vs H1 ⟨g1, ds, s1, env, R1, E1, r1, p1⟩ => ?_
  unfold dzipF at p1
  split at p1
  case h_2 => exact p1.elim
  rename_i x y
  obtain ⟨v, us, rfl, r2, r3⟩ := r1
  obtain ⟨v', us', rfl, r4, r5⟩ := r3
  cases r5
  split at p1
  case h_2 => exact p1.elim
  rename_i xs ys ex ey
  split at p1
  case h_2 => exact p1.elim
  rename_i ks ek
  obtain ⟨a, vs, rfl, t1, d1⟩ := tpl_ok r2 ex
  obtain ⟨b, ws, rfl, t2, d2⟩ := tpl_ok r4 ey
  have ev := keysOf_ok d1 ek
  obtain ⟨q1, q2⟩ := zip_rel (ks := ks) d2
  obtain ⟨k1, k2⟩ := merge_rel (kvs := []) (us := []) q1 q2 rfl rfl
  exact ⟨a, b, ks, ws, rfl, by rw [← ev]; exact t1, t2, fun q hq => post_dnew R1 k1 k2 p1 q hq⟩
/-- a statement that is not reached -/
theorem ps_und {X : Cx} {W : WX} {st : Stmt} : PSX X W st (fun _ _ => .bad) := ⟨fun pins s σ H D I h => by
  obtain ⟨g, s', env, R, E, q⟩ := h
  exact q.elim⟩
end Co
namespace Co
open PySem PySem.Spec PyProof.Rows L2
/-! ### l.extend(t), t a tuple -/
section
open AutoSeq1 in
theorem ext_tuple (l : Addr) (items : Array Value) (n : Nat) (b : Addr) (its : Array Value) (k : Nat) (dct : Option Addr) (sl : Array (Option Value)) (long : ¬(!items.isEmpty && Builtin.List.listTooLong (items.size + its.size)) = true) (small : items.size ≤ sizeLine) (both : items.size + its.size ≤ sizeLine + 1) :
    Meets (Builtin.«list.extend» ⟨[.ref l, .ref b], []⟩) (fun _ R s => s.heap.get? l = some { cls := .type "list", dict := none, data := .seq items n, slots := #[] } ∧ s.heap.get? b = some { cls := .type "tuple", dict := dct, data := .seq its k, slots := sl } ∧ R (.ok (.ret Value.none)) { s with heap := s.heap.update l (Obj.mapSeq fun x => x ++ its), toks := s.toks }) :=
  .of_wp fun prog w A R s hs => by
    obtain ⟨hp, g, d, tk, os⟩ := s
    obtain ⟨at1, at2, at3⟩ := hs
    have g1 := idx_int
    have g2 := AutoSeq1.sub_tuple_tuple
    have g3 := AutoSeq1.sub_list_list
    have g4 := AutoSeq1.sub_tuple_list
    have g5 := AutoSeq1.sub_list_tuple
    have sz : (items ++ its).size ≤ sizeLine + 1 := by rw [Array.size_append]; exact both
    wp_walk using (wpAny_updateSeq at1 rfl (hz := small) (_hz' := sz)), wpAny_loadPart' at1, wpAny_loadPart' at2
    exact ⟨_, rfl, at3⟩
end
def rExtT (K : Frag) : V → List V → Hp → VK → Prop := fun x vs H Q => ∃ l b xs zs, x = .ref l ∧ vs = [.ref b] ∧ H l = some (.lst xs) ∧ SqT K H b zs ∧ xs.length + zs.length ≤ sizeLine ∧ Q .non (upd H l (.lst (xs ++ zs)))
theorem mt_extT {X : Cx} : MtM X "list.extend" (rExtT X.K) := by
  intro pins s σ H x vs v us Q I rx rv h
  obtain ⟨l, b, xs, zs, rfl, rfl, hl, hb, hz, q⟩ := h
  cases rx
  obtain ⟨u, rfl, ru⟩ := rv.one
  cases ru
  obtain ⟨z, its, n, r, len, e⟩ := I.lstM hl
  obtain ⟨its2, r2, tp, z2⟩ := I.tuple hb
  obtain ⟨⟨c, dct, dt, sl⟩, e2, ec, k, ed⟩ := tp
  have ec : c = .type "tuple" := ec
  have ed : dt = .seq its2.toArray k := ed
  subst ec ed
  have len2 := r2.length
  have fit : its.toArray.size + its2.toArray.size ≤ sizeLine := by rw [List.size_toArray, List.size_toArray]; omega
  have long : ¬ (!its.toArray.isEmpty && Builtin.List.listTooLong (its.toArray.size + its2.toArray.size)) = true := by
    rw [notLongL fit, Bool.and_false]
    exact Bool.false_ne_true
  refine call_meets F.slot_list_extend ⟨_, e, rfl⟩ F.entry_list_extend (F.args_list_extend_2 _ _) (ext_tuple l its.toArray n b its2.toArray k dct sl long (by rw [List.size_toArray]; omega) (by omega)) ⟨e, e2, .non, _, I.lset (its' := its ++ its2) hl e (by simp) (r.append r2) ?_, rfl, q⟩
  rw [List.length_append]; omega
def rExt2 (K : Frag) : V → List V → Hp → VK → Prop := fun x vs H Q => rExtend x vs H Q ∨ rExtT K x vs H Q
theorem mt_ext2 {X : Cx} : MtM X "list.extend" (rExt2 X.K) := fun pins s σ H x vs v us Q I rx rv h => h.elim (mt_extend pins s σ H x vs v us Q I rx rv) (mt_extT pins s σ H x vs v us Q I rx rv)
def extF2 (x : D) (ds : List D) (s : S) : R D := match ds with
  | [.tup ys] => match hlOf x s with
    | some (a, xs) => if xs.length + ys.length ≤ LINE then .ok .non (s.upd a (.lst (xs ++ ys))) else .bad
    | none => .bad
  | [.ct ys] => match hlOf x s with
    | some (a, xs) => if xs.length + ys.length ≤ LINE then .ok .non (s.upd a (.lst (xs ++ ys))) else .bad
    | none => .bad
  | ds => extF x ds s
theorem opm_ext2 {K : Frag} : OpMt K (rExt2 K) extF2 := by
  intro W g s H σ x ds v vs Q R rx rs h
  have go : ∀ {d : D} {ys : List D}, ds = [d] → tplOf d = some ys → Post K W g H σ (RD K) (match hlOf x s with
      | some (a, xs) => if xs.length + ys.length ≤ LINE then .ok .non (s.upd a (.lst (xs ++ ys))) else .bad
      | none => .bad) Q → rExt2 K v vs H Q := by
    intro d ys ed et hh
    cases e : hlOf x s with
    | none => rw [e] at hh; exact hh.elim
    | some pr =>
      obtain ⟨a, xs⟩ := pr
      rw [e] at hh
      have hh : Post K W g H σ (RD K) (if xs.length + ys.length ≤ LINE then .ok .non (s.upd a (.lst (xs ++ ys))) else .bad) Q := hh
      obtain ⟨rfl, ha⟩ := hl_is e
      obtain ⟨p, rfl, hm⟩ := rx
      obtain ⟨us, h3, h4⟩ := hl_at R ha hm
      obtain ⟨w, rfl, rw'⟩ := one_of rs ed
      obtain ⟨q, zs, rfl, f2, f3⟩ := tpl_ok rw' et
      by_cases hl : xs.length + ys.length ≤ LINE
      · rw [if_pos hl] at hh
        obtain ⟨st, R'⟩ := hl_put R ha hm (h4.append f3)
        exact .inr ⟨p, q, us, zs, rfl, rfl, h3, f2, by rw [← h4.length, ← f3.length]; exact hl, hh g _ .non st R' rfl⟩
      · rw [if_neg hl] at hh; exact hh.elim
  unfold extF2 at h
  split at h
  · exact go rfl rfl h
  · exact go rfl rfl h
  · exact .inl (opm_ext W g s H σ x _ v vs Q R rx rs h)
end Co
namespace Co
open PySem PySem.Spec PyProof.Rows
open PySem.W (Frag)
/-! ### own exceptions, whose __init__ hands a text on and keeps its arguments -/
/-- a value that a text or a number is -/
def flV : Value → Bool
  | .str x _ => decide (x.length ≤ 1000)
  | .int i _ => decide (i.natAbs.log2 < 1900)
  | _ => false
/-- a part of the text -/
def partB (ps : List Str) : Expr → Bool
  | .Constant (.str x) _ _ => decide (x.length ≤ 1000)
  | .FormattedValue (.Name y _) c none _ => decide (c = -1) && ps.any (fun p => p == y) && !(y == ("__debug__" : Str))
  | _ => false
/-- self.p = p, for each -/
def keepB : List Str → List Stmt → Bool
  | [], [] => true
  | p :: ps, .Assign [.Attribute (.Name y _) f _] (.Name z _) _ :: ss => y == ("self" : Str) && f == p && z == p && !(p == ("__debug__" : Str)) && keepB ps ss
  | _, _ => false
def initB (ps : List Str) : List Stmt → Bool
  | .Expr (.Call (.Attribute (.Call (.Name y _) [] [] _) m ap) [.JoinedStr (a :: b :: vs) _] [] cp) _ :: ss =>
    y == ("super" : Str) && m == ("__init__" : Str) && (a :: b :: vs).all (partB ps) && decide ((a :: b :: vs).length ≤ 20) && ap.endLine == cp.line && keepB ps ss
  | _ => false
def scopeB (ps : List Str) (sc : Scope) : Bool :=
  sc.kind == .function && !sc.isCoroutine && !sc.isGenerator && sc.names.all (fun y => !(y.2 == .cell)) && (("self" : Str) :: ps).all (fun p => sc.names.lookup p == some NameKind.local) &&
  sc.names.lookup ("super" : Str) == some NameKind.globalImplicit && sc.names.lookup ("__class__" : Str) == some NameKind.free
def argsB (ps : List Str) (a : Arguments) : Bool :=
  a.posonlyargs.isEmpty && a.vararg.isNone && a.kwonlyargs.isEmpty && a.kwarg.isNone && decide (a.args.map (·.arg) = ("self" : Str) :: ps)
open PySem.W PySem.Calls PySem.HandSPX
/-- what the written part says of the class x, at C, and of its __init__, at fI -/
structure XcK (K : Frag) (mg : Str → Option Value) (file : Str) (C fI : Addr) (ps : List Str) : Prop where
  T : L2.OexC K C
  X : L2.XfC K C
  noN : ∀ p ∈ ps, findIn K (.ref C) p = some none
  iC : findIn K (.ref C) "__init__" = some (some (.ref fI))
  tI : typeIn K (.ref fI) = some (.type "function")
  al : ks_superIn K C C "__init__" = some (some (.builtin "ValueError.__init__"))
  vb : subIn K (.ref C) (.type "ValueError") = some true
  no : nsIn K cStatics "thirdparty.any" = some none
  sup : mg "super" = none
  ia : findIn K (.ref C) "__class__" = some (some (.builtin "object.__class__"))
  im : mroIn K C (.type "object") = some true
  ig : specialIn K (.builtin "object.__class__") "__get__" = some (some (.builtin "getset_descriptor.__get__"))
  it : takesIn K (.builtin "object.__class__") = some true
  nd : ps.Nodup
  few : ps ≠ [] ∧ ps.length ≤ 9 ∧ ("self" : Str) ∉ ps
  fn : ∃ (oc : Value) (od : Option Addr) (name qual : Str) (params : Arguments) (body : List Stmt) (scope : Scope) (dV kV doc pm : Value) (an : Option Addr) (cda : Addr) (ct : Value) (cc : Addr) (osl : Array (Option Value)),
    K.lookup fI = some ⟨oc, od, .func (ksFn name qual params body scope dV kV doc pm an (.ref cda) ct cc), osl⟩ ∧ codeIn K (.ref cda) qual = true ∧ initB ps body = true ∧ scopeB ps scope = true ∧ argsB ps params = true ∧
    (∃ c d vs sl tf, K.lookup cda = some ⟨c, d, .fields vs, sl⟩ ∧ vs[2]? = some (.str file tf)) ∧ (∃ c d sl, K.lookup cc = some ⟨c, d, .cell (some (.ref C)), sl⟩) ∧
    ∀ (s : Shared) (u : Value) (us : List Value), us.length = ps.length → BindsTo s (ksFn name qual params body scope dV kV doc pm an (.ref cda) ct cc) ⟨u :: us, []⟩ ((("self" : Str) :: ps).zip (u :: us))
section
variable {prog : Program} {w : World} {A : Around} {E : Value → Shared → Prop} {R : Result → Shared → Prop} {s : Shared} {env : PySem.Env}
theorem ldLoc {L : Addr} {m : Str → Option Value} {x : Str} {pos : Pos} {v : Value} {Q : Value → Shared → Prop} (hn : s.heap.Ns env.locals m) (hv : m x = some v) (h : Q v s) (hk : env.scope.kind = .function) (hl : env.kindOf x = some .local) (hd : (x == ("__debug__" : Str)) = false) :
    wpAny (model prog w) A (eval (.Name x pos) env) Q E s := wpAny_Name (wpAny_loadName_local hk hl hn hv h) hd
theorem fl_len {i : Int} (h : i.natAbs.log2 < 1900) : (Str.ofString (toString i)).length ≤ 1901 := by
  have e := int_text_length_le (k := 1900) (by decide) h
  rw [PySem.ofString_length]
  exact e
/-- the text's parts -/
theorem parts_run {ps : List Str} {m : Str → Option Value} (hk : env.scope.kind = .function) (hl : ∀ p ∈ ps, env.kindOf p = some .local) (hm : ∀ p ∈ ps, ∃ u, m p = some u ∧ flV u = true) :
    ∀ (vs : List Expr) (acc : Str) (s : Shared) (Q : Str → Shared → Prop), vs.all (partB ps) = true → acc.length + 2000 * vs.length ≤ sizeLine → s.heap.Ns env.locals m →
      (∀ out tk, out.length ≤ sizeLine → Q out { s with toks := tk }) → Joins (model prog w) A E (evalEach vs env) acc Q s
  | [], acc, s, Q, _, hz, _, hQ => by
    have e0 : evalEach [] env = [] := by first | rfl | simp [evalEach]
    rw [e0]
    exact hQ acc s.toks (by simpa using hz)
  | e :: vs, acc, s, Q, hp, hz, hn, hQ => by
    rw [List.all_cons, Bool.and_eq_true] at hp
    obtain ⟨he, hp⟩ := hp
    have e0 : evalEach (e :: vs) env = eval e env :: evalEach vs env := by first | rfl | simp [evalEach]
    rw [e0]
    rw [List.length_cons] at hz
    have next : ∀ (y : Str) (tk : Tok) (tk' : Nat), y.length ≤ 1901 → ∃ y' t, Value.str y tk = .str y' t ∧ (acc ++ y').length ≤ sizeLine ∧ Joins (model prog w) A E (evalEach vs env) (acc ++ y') Q { s with toks := tk' } := fun y tk tk' hy => by
      have el : (acc ++ y).length = acc.length + y.length := strLen_append _ _
      exact ⟨y, tk, rfl, by omega, parts_run hk hl hm vs (acc ++ y) _ Q hp (by omega) hn fun out tk2 ho => hQ out tk2 ho⟩
    show wpAny _ _ (eval e env) _ _ s
    unfold partB at he
    split at he
    · exact wpAny_Constant_str (next _ _ _ (by have := of_decide_eq_true he; omega))
    · rename_i y p c q
      rw [Bool.and_eq_true, Bool.and_eq_true] at he
      obtain ⟨⟨h1, h2⟩, h3⟩ := he
      have h1 := of_decide_eq_true h1
      subst h1
      obtain ⟨p', hp', e'⟩ := List.any_eq_true.mp h2
      have e' : p' = y := beq_iff_eq.mp e'
      subst e'
      obtain ⟨u, hu, fu⟩ := hm p' hp'
      refine wpAny_FormattedValue_plain (ldLoc (L := env.locals) hn hu ?_ hk (hl p' hp') (by simpa using h3))
      cases u with
      | str x t =>
        have fu : x.length ≤ 1000 := of_decide_eq_true fu
        exact wpAny_formatField_str (next _ _ _ (by omega)) (next _ _ _ (by omega)) (by rw [sizeLine_eq]; omega)
      | int i t =>
        have fu : i.natAbs.log2 < 1900 := of_decide_eq_true fu
        exact wpAny_formatField_int (by omega) (next _ _ _ (fl_len fu))
      | _ => exact absurd fu (by unfold flV; exact Bool.false_ne_true)
    · exact absurd he Bool.false_ne_true
/-- what is kept, as a map -/
def putM (m : Str → Option Value) (p : Str) (u : Value) : Str → Option Value := fun y => if y = p then some u else m y
theorem putM_all : ∀ (ps : List Str) (us : List Value) (m : Str → Option Value) (y : Str), ps.Nodup → us.length = ps.length →
    ((ps.zip us).foldl (fun m q => putM m q.1 q.2) m) y = (match (ps.zip us).lookup y with
      | some v => some v
      | none => m y)
  | [], us, m, y, _, _ => by simp
  | p :: ps, [], m, y, _, h => by simp at h
  | p :: ps, u :: us, m, y, nd, h => by
    rw [List.zip_cons_cons, List.foldl_cons, putM_all ps us (putM m p u) y (List.nodup_cons.mp nd).2 (by simpa using h), List.lookup_cons]
    by_cases e : y = p
    · subst e
      have : (ps.zip us).lookup y = none := by
        rw [List.lookup_eq_none_iff]
        intro q hq
        have hm : q.1 ∈ ps := (List.of_mem_zip (show (q.1, q.2) ∈ ps.zip us from hq)).1
        simp only [bne_iff_ne, ne_eq]
        exact fun e => (List.nodup_cons.mp nd).1 (by rw [e]; exact hm)
      rw [this]
      simp [putM]
    · have e' : (y == p) = false := by simpa using e
      rw [e']
      simp [putM, e]
theorem keepB_cons {p : Str} {ps : List Str} {ss : List Stmt} (h : keepB (p :: ps) ss = true) : ∃ py pf pz pos ss', ss = .Assign [.Attribute (.Name "self" py) p pf] (.Name p pz) pos :: ss' ∧ (p == ("__debug__" : Str)) = false ∧ keepB ps ss' = true := by
  unfold keepB at h
  split at h
  · contradiction
  · rename_i p' ps' y py f pf z pz pos ss' h1
    cases h1
    simp only [Bool.and_eq_true] at h
    obtain ⟨⟨⟨⟨b1, b2⟩, b3⟩, b4⟩, b5⟩ := h
    obtain rfl : y = ("self" : Str) := beq_iff_eq.mp b1
    obtain rfl : f = p := beq_iff_eq.mp b2
    obtain rfl : z = f := beq_iff_eq.mp b3
    exact ⟨_, _, _, _, _, rfl, by simpa using b4, b5⟩
  · exact absurd h Bool.false_ne_true
/-- the further fields -/
theorem keeps_run {K : Frag} {C e dx : Addr} {fv : Array Value} {cd : ClassData} (hcl : clsIn K C = some cd) (hmro : refsVE cd.mro = true) (hh : cd.hasDict = true) (sa : findIn K (.ref C) "__setattr__" = some (some (.builtin "object.__setattr__"))) {mL : Str → Option Value} (hk : env.scope.kind = .function)
    (hself : env.kindOf "self" = some .local) (vself : mL "self" = some (.ref e)) (hed : e ≠ dx) (hLd : env.locals ≠ dx) (hKd : K.lookup dx = none) {Q : Flow → Shared → Prop} :
    ∀ (ps : List Str) (us : List Value) (ss : List Stmt) (s : Shared) (m0 : Str → Option Value) (nl : List Str), keepB ps ss = true → us.length = ps.length → (∀ p ∈ ps, findIn K (.ref C) p = some none) → (∀ p ∈ ps, env.kindOf p = some .local) → (∀ q ∈ ps.zip us, mL q.1 = some q.2) →
      K.In s.heap → s.heap.get? e = some { cls := .ref C, dict := some dx, data := .fields fv } → s.heap.Ns1 dx m0 → Within m0 nl → nl.length + ps.length ≤ 900 → s.heap.Ns env.locals mL →
      (∀ h' tk, (∀ b o, b ≠ dx → s.heap.get? b = some o → h'.get? b = some o) → h'.Ns1 dx ((ps.zip us).foldl (fun m q => putM m q.1 q.2) m0) → Q .next { s with heap := h', toks := tk }) →
      wpAny (model prog w) A (execs ss env) Q E s
  | [], us, ss, s, m0, nl, hb, hl, _, _, _, X, he, hn, hw, hz, hL, hQ => by
    cases ss with
    | nil => exact wpAny_execs_nil (hQ s.heap s.toks (fun b o _ x => x) (by simpa using hn))
    | cons a b => exact absurd hb Bool.false_ne_true
  | p :: ps, [], ss, s, m0, nl, hb, hl, _, _, _, X, he, hn, hw, hz, hL, hQ => by simp at hl
  | p :: ps, u :: us, ss, s, m0, nl, hb, hl, hno, hloc, hv, X, he, hn, hw, hz, hL, hQ => by
    unfold keepB at hb
    split at hb
    · contradiction
    · rename_i p' ps' y py f pf z pz pos ss' h1
      cases h1
      simp only [Bool.and_eq_true] at hb
      obtain ⟨⟨⟨⟨b1, b2⟩, b3⟩, b4⟩, b5⟩ := hb
      obtain rfl : y = ("self" : Str) := beq_iff_eq.mp b1
      obtain rfl : f = p := beq_iff_eq.mp b2
      obtain rfl : z = f := beq_iff_eq.mp b3
      refine wpAny_execs_cons (plainObj_wpAny_Assign_Attribute ?_)
      refine ldLoc (L := env.locals) hL (hv (z, u) (by simp)) ?_ hk (hloc z List.mem_cons_self) (by simpa using b4)
      refine ldLoc (L := env.locals) hL vself ?_ hk hself (by decide)
      obtain ⟨oD, esD, epD, hoD, hdD, _⟩ := hn.count hw
      refine set_plain X (ox := { cls := .ref C, dict := some dx, data := .fields fv }) (od := some oD) ⟨he, rfl, rfl, hoD⟩ sa ?_
      refine PySem.OEX.osa_old X he hn hw (by rw [List.length_cons] at hz; omega) hcl hmro hh (hno z List.mem_cons_self) (fun h' tk' k hn' => ?_)
      have X' : K.In h' := fun a o q => k a o (fun w => by rw [w, hKd] at q; cases q) (X a o q)
      refine keeps_run hcl hmro hh sa hk hself vself hed hLd hKd ps us ss' { s with heap := h', toks := tk' } (putM m0 z u) (z :: nl) b5 (by simpa using hl) (fun p hp => hno p (List.mem_cons_of_mem _ hp)) (fun p hp => hloc p (List.mem_cons_of_mem _ hp)) (fun q hq => hv q (by rw [List.zip_cons_cons]; exact List.mem_cons_of_mem _ hq)) X' (k e _ hed he) hn' (Within.cons z u hw)
        (by rw [List.length_cons] at hz ⊢; omega) ?_ ?_
      · obtain ⟨o, es, ep, h1, h2⟩ := hL
        exact ⟨o, es, ep, k _ _ hLd h1, h2⟩
      · intro h2 tk2 k2 hn2
        exact hQ h2 tk2 (fun b o hb x => k2 b o hb (k b o hb x)) (by rw [List.zip_cons_cons, List.foldl_cons]; exact hn2)
    · exact absurd hb Bool.false_ne_true
theorem lookup_mem : ∀ {l : List (Str × Value)} {k : Str} {v : Value}, (l.map (·.1)).Nodup → (k, v) ∈ l → l.lookup k = some v
  | [], _, _, _, h => by cases h
  | (a, b) :: l, k, v, nd, h => by
    rw [List.map_cons, List.nodup_cons] at nd
    rw [List.lookup_cons]
    rcases List.mem_cons.mp h with e | h'
    · cases e; simp
    · have : (k == a) = false := by
        simp only [beq_eq_false_iff_ne, ne_eq]
        intro e
        exact nd.1 (List.mem_map.mpr ⟨(k, v), h', e⟩)
      rw [this]
      exact lookup_mem nd.2 h'
theorem rev_look {ns : List Str} {us : List Value} (nd : ns.Nodup) (hl : us.length = ns.length) {q : Str × Value} (hq : q ∈ ns.zip us) : (ns.zip us).reverse.lookup q.1 = some q.2 := by
  refine lookup_mem ?_ (List.mem_reverse.mpr hq)
  rw [List.map_reverse, (List.reverse_perm _).nodup_iff, List.map_fst_zip (by omega)]
  exact nd
/-- a call by an attribute of super(), on one line -/
theorem sup_eval {o : Expr} {m : Str} {apos pos : Pos} {es : List Expr} {env : PySem.Env} (h2 : (apos.endLine == pos.line) = true) (h3 : (starEach es env).all (fun x => !x.1) = true) (h4 : es.length < 30) :
    eval (.Call (.Attribute o m apos) es [] pos) env = (do
      let ov ← attributeBase o m env (eval o env)
      standAt apos.atName
      let (f, first) ← holding [ov] (getMethod ov m (L2.plainOf o env))
      callWith pos f first (backTo pos (starEach es env)) []) := by
  have h3' : (backTo pos (starEach es env)).all (fun x => !x.1) = true := by
    unfold backTo
    rw [List.all_map]
    exact h3
  have few : ((backTo pos (starEach es env)).all (fun x => !x.1) && (backToKw pos (keywordEach [] env)).all (fun x => x.1.isSome)
    && decide (es.length + ([] : List Keyword).length + (if ([] : List Keyword).isEmpty then 0 else 1) < 30)) = true := by
    rw [h3']
    show (true && true && decide (es.length + 0 + 0 < 30)) = true
    simpa using h4
  have e1 : ∀ ov, methodCall o m apos pos env ov (es.length + ([] : List Keyword).length) (backTo pos (starEach es env)) (backToKw pos (keywordEach [] env)) = (do
      let (f, first) ← holding [ov] (getMethod ov m (L2.plainOf o env))
      callWith pos f first (backTo pos (starEach es env)) (backToKw pos (keywordEach [] env))) := fun ov => L2.mcall_line few h2
  have e2 : eval (.Call (.Attribute o m apos) es [] pos) env = (do
      let ov ← attributeBase o m env (eval o env)
      standAt apos.atName
      methodCall o m apos pos env ov (es.length + ([] : List Keyword).length) (backTo pos (starEach es env)) (backToKw pos (keywordEach [] env))) := by rfl
  rw [e2]
  simp only [e1]
  rfl
abbrev xcO (C t : Addr) (d : Option Addr) : Obj := { cls := .ref C, dict := d, data := .fields #[.ref t, .none, .none, .none, .bool false, .none] }
theorem exc_init {K : Frag} {mg : Str → Option Value} {file : Str} {C fI : Addr} {ps : List Str} (Z : XcK K mg file C fI ps) (hfile : (prog.main.file == file) = true) (htop : (prog.main.scope.names.lookup ("super" : Str)).isSome = false) {e t0 : Addr} {us : List Value}
    (X : K.In s.heap) (hlim : s.heap.NoLimit) (gl : s.heap.Ns mainGlobals mg) (bl : ∃ mb, s.heap.Ns builtinsNs mb ∧ ∀ x : Str, x ≠ "__name__" → mb x = bootBuiltins x) (he : s.heap.get? e = some (xcO C t0 none)) (hne : K.lookup e = none) (hroom : A.depth < recursionLimit)
    (hl : us.length = ps.length) (hv : ∀ u ∈ us, flV u = true)
    (hq : ∀ h' tk dx t1, (∀ b o, b ≠ e → s.heap.get? b = some o → h'.get? b = some o) → s.heap.objs.size ≤ dx → dx ≠ e → h'.get? e = some (xcO C t1 (some dx)) → h'.Ns1 dx (fun y => (ps.zip us).lookup y) → R (.ok (.ret .none)) { s with heap := h', toks := tk }) :
    codeAny (model prog w) A (.call (.ref fI) ⟨.ref e :: us, []⟩) R s := by
  obtain ⟨oc, od, name, qual, params, body, scope, dV, kV, doc, pm, an, cda, ct, cc, osl, ho, hcd, bB, bS, bA, ⟨kc, kd, vs, ksl, tf, hco, hvs⟩, ⟨cl, cld, csl, hcell⟩, hbind⟩ := Z.fn
  obtain ⟨nm, q, N, bs, bm, sn, sub, ab, col, dd, k0, k1, k2, k3, k5, hC, hbm⟩ := Z.T.cls
  have hcl : clsIn K C = some { name := nm, bases := bs, mro := .ref C :: bm, ns := N, qualname := q, hasDict := true, slotNames := sn, subclasses := sub, abstract := ab, collection := col, hasDel := false } := by unfold clsIn; rw [hC] <;> rfl
  unfold scopeB at bS
  simp only [Bool.and_eq_true] at bS
  obtain ⟨⟨⟨⟨⟨⟨s1, s2⟩, s3⟩, s4⟩, s5⟩, s6⟩, s7⟩ := bS
  have hk : scope.kind = .function := beq_iff_eq.mp s1
  have loc : ∀ p ∈ ("self" : Str) :: ps, scope.names.lookup p = some .local := fun p hp => beq_iff_eq.mp (List.all_eq_true.mp s5 p hp)
  have hks : scope.names.lookup ("super" : Str) = some .globalImplicit := beq_iff_eq.mp s6
  have hkc : scope.names.lookup ("__class__" : Str) = some .free := beq_iff_eq.mp s7
  have lz : (.ref e :: us : List Value).length = (("self" : Str) :: ps).length := by rw [List.length_cons, List.length_cons, hl]
  have hps : ∃ ar l, params.posonlyargs ++ params.args = ar :: l ∧ ar.arg = ("self" : Str) := by
    obtain ⟨po, ar, va, ko, kd', kw, df⟩ := params
    unfold argsB at bA
    simp only [Bool.and_eq_true] at bA
    obtain ⟨⟨⟨⟨a1, _⟩, _⟩, _⟩, a5⟩ := bA
    have a1 : po = [] := List.isEmpty_iff.mp a1
    have a6 : ar.map (·.arg) = ("self" : Str) :: ps := of_decide_eq_true a5
    subst a1
    cases ar with
    | nil => cases a6
    | cons a l => exact ⟨a, l, rfl, (List.cons.inj (show a.arg :: l.map (·.arg) = _ from a6)).1⟩
  obtain ⟨ar, al, hpa, har⟩ := hps
  refine ks_codeAny_call_defAt (fd := ksFn name qual params body scope dV kV doc pm an (.ref cda) ct cc) (body := body) (binds := (("self" : Str) :: ps).zip (.ref e :: us)) hroom (X _ _ ho) rfl hlim (codeRec_of X hcd) rfl (hbind s (.ref e) us hl)
    (fun x hx => ?_) (fun x hx => loc x.1 (List.of_mem_zip (show (x.1, x.2) ∈ _ from hx)).1) (fun h₁ hn kk => ?_) (by simpa using s2) (by simpa using s3) hk
  · have := List.all_eq_true.mp s4 x hx
    intro z
    rw [z] at this
    simp at this
  generalize hL : s.heap.objs.size = L at hn
  have henv : callEnv (ksFn name qual params body scope dV kV doc pm an (.ref cda) ct cc) L fI = ksEnv qual scope L fI (.ref cda) cc := rfl
  rw [henv]
  generalize hE : ksEnv qual scope L fI (.ref cda) cc = env
  have ekind : env.scope.kind = .function := by rw [← hE]; exact hk
  have eloc : ∀ p ∈ ("self" : Str) :: ps, env.kindOf p = some .local := fun p hp => by rw [← hE]; exact loc p hp
  have eL : env.locals = L := by rw [← hE]
  unfold initB at bB
  split at bB
  · rename_i y yp yp2 m ap a b ws jp cp xp ss
    simp only [Bool.and_eq_true] at bB
    obtain ⟨⟨⟨⟨⟨b1, b2⟩, b3⟩, b4⟩, b5⟩, b6⟩ := bB
    obtain rfl : y = ("super" : Str) := beq_iff_eq.mp b1
    obtain rfl : m = ("__init__" : Str) := beq_iff_eq.mp b2
    have hstar : starEach [.JoinedStr (a :: b :: ws) jp] env = (false, eval (.JoinedStr (a :: b :: ws) jp) env) :: starEach [] env := rfl
    have hint : interactive env = false := by simp [interactive, ekind]
    refine ks_wpAt_execs_cons (ks_wpAt_Expr_any (ks_wpAt_MethodCall (pl := L2.plainOf _ env) ?_ (sup_eval b5 (by rw [hstar]; rfl) (by show 1 < 30; decide))) hint)
    have X₁ : K.In h₁ := X.keeps kk
    have he₁ : h₁.get? e = some (xcO C t0 none) := kk _ _ he
    have I₁ : InstAt h₁ e (xcO C t0 none) C none := ⟨he₁, rfl, rfl, trivial⟩
    have fnat := X₁ _ _ ho
    have ek1 : env.kindOf "super" = some .globalImplicit := by rw [← hE]; exact hks
    have ek2 : env.kindOf "__class__" = some .free := by rw [← hE]; exact hkc
    refine ks_wpAt_super_base (f := fI) (cc := cda) ek1 ek2 (by decide) (by rw [← hE]) fnat rfl (ar := ar) (by show (params.posonlyargs ++ params.args).head? = _; rw [hpa]; rfl) (by rw [← hE]) (X₁ _ _ hco) rfl hvs hfile htop ?_
    obtain ⟨mb, bl1, bl2⟩ := bl
    have eg : env.globals = mainGlobals := by rw [← hE]
    have eb : env.builtins = builtinsNs := by rw [← hE]
    have gl₁ : h₁.Ns env.globals mg := by rw [eg]; exact gl.keeps kk
    have bl₁ : h₁.Ns env.builtins mb := by rw [eb]; exact bl1.keeps kk
    have hsup : bootBuiltins "super" = some (.type "super") := PyProof.Rows.Boot.«super»
    refine ks_loadName_global ekind ek1 (loadGlobal_builtin gl₁ Z.sup bl₁ ((bl2 _ (by decide +kernel)).trans hsup) ⟨rfl, ?_⟩)
    have ecell : env.cells.lookup ("__class__" : Str) = some cc := by rw [← hE]; rfl
    refine wpAny_loadName_free ekind ek2 ecell ⟨_, X₁ _ _ hcell, rfl⟩ ?_
    have hnL : h₁.Ns env.locals (fun x => ((("self" : Str) :: ps).zip (.ref e :: us)).reverse.lookup x) := by rw [eL]; exact hn
    have ndA : (("self" : Str) :: ps).Nodup := List.nodup_cons.mpr ⟨Z.few.2.2, Z.nd⟩
    have vself : ((("self" : Str) :: ps).zip (.ref e :: us)).reverse.lookup ("self" : Str) = some (.ref e) := rev_look (q := ("self", .ref e)) ndA lz (by rw [List.zip_cons_cons]; exact List.mem_cons_self)
    have vps : ∀ q ∈ ps.zip us, ((("self" : Str) :: ps).zip (.ref e :: us)).reverse.lookup q.1 = some q.2 := fun q hq => rev_look ndA lz (by rw [List.zip_cons_cons]; exact List.mem_cons_of_mem _ hq)
    rw [har]
    refine wpAny_loadName_local ekind (eloc _ List.mem_cons_self) hnL vself ?_
    have hC₁ := X₁ _ _ hC
    refine ks_wpAny_isType_cls hC₁ rfl ⟨rfl, ?_⟩
    have msub : mroIn K C (.ref C) = some true := by unfold mroIn; rw [hcl]; simp
    refine ks_wpAny_call_super hC₁ rfl I₁.at_ I₁.cls (fun c z => by cases z) (looks_mroIn X₁ msub) (fun h₂ hso k₂ => ?_)
    have X₂ : K.In h₂ := X₁.keeps k₂
    have I₂ : InstAt h₂ e (xcO C t0 none) C none := ⟨k₂ _ _ he₁, rfl, rfl, trivial⟩
    have hal : alongIn K "__init__" (((.ref C :: bm : List Value).dropWhile (· != .ref C)).drop 1) = some (some (.builtin "ValueError.__init__")) := by
      have := Z.al
      unfold ks_superIn at this
      rw [hcl] at this
      exact this
    have heC : e ≠ C := fun z => by rw [z, hC] at hne; cases hne
    refine kxs_getMethod kxs_ValueError hso (looks_opaque X₂ Z.no) (l₀ := .ref C :: bm) ?_ rfl X₂ hal (I₂.type.andThen (looks_subIn X₂ Z.vb)) heC (by decide) ?_
    · exact fun A Q E s k q => wpAny_bind ((looks_clsIn X₂ hcl) A _ E s k (wpAny_pure q))
    have k₃ : ∀ b o, h₂.get? b = some o → (h₂.push (kxs_mw "ValueError.__init__" e)).get? b = some o := fun b o x => Heap.get?_push_of_some _ x
    have hu : (h₂.push (kxs_mw "ValueError.__init__" e)).get? h₂.objs.size = some (kxs_mw "ValueError.__init__" e) := Heap.get?_push_at rfl rfl
    generalize h₂.push (kxs_mw "ValueError.__init__" e) = h₃ at k₃ hu ⊢
    generalize h₂.objs.size = u at hu ⊢
    have k13 : ∀ b o, h₁.get? b = some o → h₃.get? b = some o := fun b o x => k₃ b o (k₂ b o x)
    have hn₃ : h₃.Ns env.locals (fun x => ((("self" : Str) :: ps).zip (.ref e :: us)).reverse.lookup x) := hnL.keeps k13
    dsimp only
    rw [hstar]
    have hsp : ∀ {Q : List Value → Shared → Prop} {E : Value → Shared → Prop} {s : Shared}, s.heap.Ns env.locals (fun x => ((("self" : Str) :: ps).zip (.ref e :: us)).reverse.lookup x) → (∀ out tk tk', Q [.str out tk] { s with toks := tk' }) →
        wpAny (model prog w) (A.deeper env) (spliced (backTo cp (starEach [.JoinedStr (a :: b :: ws) jp] env))) Q E s := by
      intro Q E s hns hQ
      refine PyProof.Rows.spliced_more ?_ hstar
      refine wpAny_JoinedStr (parts_run (ps := ps) (m := fun x => ((("self" : Str) :: ps).zip (.ref e :: us)).reverse.lookup x) ekind (fun p hp => eloc p (List.mem_cons_of_mem _ hp)) (fun p hp => ?_) _ _ _ _ b3 ?_ hns fun out tk ho => ⟨ho, ?_⟩)
      · obtain ⟨i, hi⟩ := List.mem_iff_getElem?.mp hp
        have hi' := (List.getElem?_eq_some_iff.mp hi).1
        have hui := List.getElem?_eq_getElem (show i < us.length by omega)
        refine ⟨us[i]'(by omega), vps (p, us[i]'(by omega)) ?_, hv _ (List.getElem_mem _)⟩
        refine List.mem_iff_getElem?.mpr ⟨i, ?_⟩
        rw [List.getElem?_zip_eq_some]
        exact ⟨hi, hui⟩
      · have := of_decide_eq_true b4
        rw [sizeLine_eq]
        show 0 + _ ≤ _
        omega
      · exact PyProof.Rows.spliced_none (hQ out _ _)
    refine kxs_callWith (i := "ValueError.__init__") (x := e) rfl (evalArgs_plain (hsp hn₃ fun out tk tk' => ⟨hu, ?_⟩))
    have he₃ : h₃.get? e = some (xcO C t0 none) := k₃ _ _ I₂.at_
    have X₃ : K.In h₃ := X₂.keeps k₃
    have hC₃ := X₃ _ _ hC
    have k03 : ∀ b o, s.heap.get? b = some o → h₃.get? b = some o := fun b o x => k13 b o (kk b o x)
    show wpAny _ _ (call (.ref u) [.str out tk]) _ _ _
    refine wpAny_call (codeAny_of_tree ?_)
    show wpAny _ _ (callAny (.ref u) ⟨[.str out tk], []⟩) _ _ _
    simp only [callAny]
    refine wpAny_bind (wpAny_load hu ?_)
    simp only [kxs_mw, show (Value.type "method-wrapper" == Value.type "method" || Value.type "method-wrapper" == Value.type "builtin_function_or_method" || Value.type "method-wrapper" == Value.type "method-wrapper") = true by decide, if_true]
    refine KFB.if_so (by decide) ?_
    refine wpAny_bind (check_bound_init PySem.F.excBase_ValueError.toExcCallFacts hC₃ he₃ rfl ?_)
    refine wpAny_bind (wpAny_pure (wpAny_pure ?_))
    refine ⟨plainId_quiet PySem.F.excBase_ValueError.init.plain _, codeAny_builtin PySem.F.excBase_ValueError.initEntry ?_⟩
    refine exc_init_tree (cls := .ref C) (t0 := t0) (dv := none) (c2 := .none) (c3 := .none) (b4 := .bool false) he₃ (by show 1 ≤ sizeLine; rw [sizeLine_eq]; omega) fun h₄ k₄ he₄ _ => ?_
    show _root_.PySem.wpAt _ _ _ (execs ss env) _ _ _
    refine wpAt_of_wpAny ?_
    have X₄ : K.In h₄ := fun a o q => k₄ a o (fun w => by rw [w, hne] at q; cases q) (X₃ a o q)
    have hLe : env.locals ≠ e := fun z => by
      obtain ⟨o, es, ep, x1, x2, _⟩ := hn₃
      rw [z, he₃] at x1
      cases x1
      cases x2
    have hn₄ : h₄.Ns env.locals (fun x => ((("self" : Str) :: ps).zip (.ref e :: us)).reverse.lookup x) := by
      obtain ⟨o, es, ep, x1, x2⟩ := hn₃
      exact ⟨o, es, ep, k₄ _ _ hLe x1, x2⟩
    obtain ⟨nep, few9, _⟩ := Z.few
    have noN := Z.noN
    have sa := Z.T.sa
    have ndp := Z.nd
    have k0b : ∀ b o, b ≠ e → s.heap.get? b = some o → h₄.get? b = some o := fun b o hb x => k₄ b o hb (k03 b o x)
    cases ps with
    | nil => exact absurd rfl nep
    | cons p ps =>
      cases us with
      | nil => simp at hl
      | cons v us =>
        obtain ⟨py, pf, pz, pos, ss', rfl, hpd, b7⟩ := keepB_cons b6
        refine wpAny_execs_cons (plainObj_wpAny_Assign_Attribute ?_)
        refine ldLoc (L := env.locals) hn₄ (vps (p, v) (by rw [List.zip_cons_cons]; exact List.mem_cons_self)) ?_ ekind (eloc p (List.mem_cons_of_mem _ List.mem_cons_self)) hpd
        refine ldLoc (L := env.locals) hn₄ vself ?_ ekind (eloc _ List.mem_cons_self) (by decide)
        refine set_plain X₄ (ox := xcO C h₃.objs.size none) (od := none) ⟨he₄, rfl, rfl, trivial⟩ sa ?_
        refine exc_osa X₄ he₄ hcl (show refsVE (.ref C :: bm) = true from hbm) rfl (noN p List.mem_cons_self) (fun h₅ tk₅ dx k₅ dn dne he₅ hn₅ => ?_)
        have dn : h₄.objs.size ≤ dx := dn
        have X₅ : K.In h₅ := fun a o q => k₅ a o (fun w => by rw [w, hne] at q; cases q) (X₄ a o q)
        have hnL5 : h₅.Ns env.locals (fun x => ((("self" : Str) :: p :: ps).zip (.ref e :: v :: us)).reverse.lookup x) := by
          obtain ⟨o, es, ep, x1, x2⟩ := hn₄
          exact ⟨o, es, ep, k₅ _ _ hLe x1, x2⟩
        have hLdx : env.locals ≠ dx := fun z => by
          obtain ⟨o, es, ep, x1, _⟩ := hn₄
          rw [z] at x1
          exact absurd (Nat.lt_of_lt_of_le (Heap.lt_size x1) dn) (Nat.lt_irrefl _)
        have hKdx : K.lookup dx = none := by
          cases q : K.lookup dx with
          | none => rfl
          | some o => exact absurd (Nat.lt_of_lt_of_le (Heap.lt_size (X₄ _ _ q)) dn) (Nat.lt_irrefl _)
        have sz : s.heap.objs.size ≤ h₄.objs.size := by
          have q1 := hn₄
          obtain ⟨o, es, ep, x1, _⟩ := q1
          have := Heap.lt_size x1
          rw [eL, ← hL] at this
          exact Nat.le_of_lt this
        refine keeps_run hcl (show refsVE (.ref C :: bm) = true from hbm) rfl sa ekind (eloc _ List.mem_cons_self) vself (Ne.symm dne) hLdx hKdx ps us ss' { s with heap := h₅, toks := tk₅ } (putM (fun _ => none) p v) [p] b7 (by simpa using hl) (fun q hq => noN q (List.mem_cons_of_mem _ hq)) (fun q hq => eloc q (List.mem_cons_of_mem _ (List.mem_cons_of_mem _ hq)))
          (fun q hq => vps q (by rw [List.zip_cons_cons]; exact List.mem_cons_of_mem _ hq)) X₅ he₅ hn₅ ?_ ?_ hnL5 fun h₆ tk₆ k₆ hn₆ => ?_
        · intro y hy
          by_cases z : y = p
          · rw [z]; exact List.mem_cons_self
          · exact absurd (if_neg z) hy
        · simp only [List.length_cons] at few9
          show 1 + ps.length ≤ 900
          omega
        · refine hq h₆ tk₆ dx h₃.objs.size (fun b o hb x => k₆ b o (fun w => ?_) (k₅ b o hb (k0b b o hb x))) (Nat.le_trans sz dn) dne (k₆ _ _ (Ne.symm dne) he₅) ?_
          · have q := Heap.lt_size x
            rw [w] at q
            exact absurd (Nat.lt_of_lt_of_le q (Nat.le_trans sz dn)) (Nat.lt_irrefl _)
          · have ef : (fun y => (((p :: ps).zip (v :: us)).lookup y)) = ((ps.zip us).foldl (fun m q => putM m q.1 q.2) (putM (fun _ => none) p v)) := by
              funext y
              rw [putM_all ps us _ y (List.nodup_cons.mp ndp).2 (by simpa using hl)]
              have := putM_all (p :: ps) (v :: us) (fun _ => none) y ndp hl
              rw [List.zip_cons_cons, List.foldl_cons, putM_all ps us _ y (List.nodup_cons.mp ndp).2 (by simpa using hl)] at this
              rw [this, List.zip_cons_cons]
              cases ((p, v) :: ps.zip us).lookup y with
              | none => rfl
              | some _ => rfl
            rw [ef]
            exact hn₆
  · exact absurd bB Bool.false_ne_true
end
end Co
namespace Co
open PySem PySem.Spec PyProof.Rows
open PySem.W PySem.Calls PySem.HandSPX
/-- a made exception -/
structure XMade (h h' : Heap) (e C d : Addr) (fs : List (Str × Value)) : Prop where
  keep : ∀ b o, h.get? b = some o → h'.get? b = some o
  new : h.objs.size ≤ e
  obj : ∃ t, h'.get? e = some (xcO C t (some d))
  dbig : h.objs.size ≤ d
  dne : d ≠ e
  ns : h'.Ns1 d (fun y => fs.lookup y)
section
variable {prog : Program} {w : World} {A : Around} {R : Result → Shared → Prop} {s : Shared} {K : Frag} {mg : Str → Option Value} {file : Str} {C fI : Addr} {ps : List Str}
theorem exc_made (Z : XcK K mg file C fI ps) (hfile : (prog.main.file == file) = true) (htop : (prog.main.scope.names.lookup ("super" : Str)).isSome = false) {us : List Value}
    (X : K.In s.heap) (hlim : s.heap.NoLimit) (gl : s.heap.Ns mainGlobals mg) (bl : ∃ mb, s.heap.Ns builtinsNs mb ∧ ∀ x : Str, x ≠ "__name__" → mb x = bootBuiltins x) (hroom : A.depth + 1 < recursionLimit)
    (hl : us.length = ps.length) (hv : ∀ u ∈ us, flV u = true) (hq : ∀ h' tk e d, XMade s.heap h' e C d (ps.zip us) → R (.ok (.ret (.ref e))) { s with heap := h', toks := tk }) :
    codeAny (model prog w) A (.call (.ref C) ⟨us, []⟩) R s := by
  obtain ⟨nm, q, N, bs, bm, sn, sub, ab, col, dd, k0, k1, k2, k3, k5, hC, hbm⟩ := Z.T.cls
  obtain ⟨hp, g, dr, tk, os⟩ := s
  have k : ∀ b o, hp.get? b = some o → ((hp.push (kdv_tup us)).push (excO C hp.objs.size)).get? b = some o := fun b o e => Heap.get?_push_of_some _ (Heap.get?_push_of_some _ e)
  have hget : ((hp.push (kdv_tup us)).push (excO C hp.objs.size)).get? (hp.objs.size + 1) = some (excO C hp.objs.size) := by heap_get
  have hnx : K.lookup (hp.objs.size + 1) = none := by
    cases e : K.lookup (hp.objs.size + 1) with
    | none => rfl
    | some o =>
      have z : hp.get? (hp.objs.size + 1) = some o := X _ _ e
      exact absurd (Nat.lt_of_succ_lt (Heap.lt_size z)) (Nat.lt_irrefl _)
  have sz : us.length ≤ sizeLine := by rw [hl, sizeLine_eq]; have := Z.few.2.1; omega
  refine call_own PySem.F.excBase_ValueError (fun X => refsVE_contains X bm hbm) (X _ _ hC) (looks_findIn X Z.iC) (fun self => bind_fn X self Z.tI) sz ?_
  obtain ⟨mb, b1, b2⟩ := bl
  refine exc_init (s := ⟨(hp.push (kdv_tup us)).push (excO C hp.objs.size), g, dr, tk, os⟩) Z hfile htop (X.keeps k) (hlim.keeps k) (gl.keeps k) ⟨mb, b1.keeps k, b2⟩ hget hnx ?_ hl hv fun h' tk' dx t1 k' dn dne hx hns => ?_
  · show A.depth + 1 < recursionLimit
    exact hroom
  · have old : ∀ b o, hp.get? b = some o → h'.get? b = some o := fun b o e => k' b o (Nat.ne_of_lt (Nat.lt_succ_of_lt (Heap.lt_size e))) (k b o e)
    have z : hp.objs.size + 1 + 1 ≤ dx := by
      first
        | (simpa only [Heap.size_push] using dn)
        | exact dn
        | (have q := dn; rw [Heap.size_push, Heap.size_push] at q; exact q)
    exact ⟨rfl, hq h' tk' (hp.objs.size + 1) dx ⟨old, Nat.le_succ _, ⟨t1, hx⟩, Nat.le_trans (Nat.le_trans (Nat.le_succ _) (Nat.le_succ _)) z, dne, hns⟩⟩
end
open L2
/-- texts and numbers -/
def flD : D → Bool
  | .str x => decide (x.length ≤ 1000)
  | .int i => decide (i.natAbs.log2 < 1900)
  | _ => false
def flW : V → Bool
  | .str x => decide (x.length ≤ 1000)
  | .int i => decide (i.natAbs.log2 < 1900)
  | _ => false
theorem flW_flV {v : V} {u : Value} (h : flW v = true) (r : RelV v u) : flV u = true := by
  cases v with
  | str x => obtain ⟨t, rfl⟩ := r; exact h
  | int i => obtain ⟨t, rfl⟩ := r; exact h
  | _ => exact absurd h Bool.false_ne_true
theorem flD_flW {K : Frag} {g : Gh} {H : Hp} {d : D} {v : V} (h : flD d = true) (r : RD K g H d v) : flW v = true := by
  cases d with
  | str x => cases r; exact h
  | int i => cases r; exact h
  | _ => exact absurd h Bool.false_ne_true
theorem flat_vals : ∀ {vs : List V} {us : List Value}, Vals vs us → (∀ v ∈ vs, flW v = true) → ∀ u ∈ us, flV u = true
  | _, _, .nil, _, u, h => by cases h
  | _, _, .cons r rs, hv, u, h => by
    rcases List.mem_cons.mp h with rfl | h
    · exact flW_flV (hv _ List.mem_cons_self) r
    · exact flat_vals rs (fun v hv' => hv v (List.mem_cons_of_mem _ hv')) u h
theorem relO_zip : ∀ {ps : List Str} {vs : List V} {us : List Value}, Vals vs us → ∀ f, RelO ((ps.zip vs).lookup f) ((ps.zip us).lookup f)
  | [], _, _, _, f => by simp [RelO]
  | p :: ps, _, _, .nil, f => by simp [RelO]
  | p :: ps, _, _, .cons r rs, f => by
    rw [List.zip_cons_cons, List.zip_cons_cons, List.lookup_cons, List.lookup_cons]
    by_cases e : f = p
    · subst e
      simp only [beq_self_eq_true]
      exact r
    · have : (f == p) = false := by simpa using e
      simp only [this]
      exact relO_zip rs f
section
variable {X : Cx} {C fI : Addr} {file : Str} {ps : List Str} {a : Expr} {as : List Expr}
/-- C(..) -/
def tMkX (C : Addr) (ps : List Str) (ta : TA) : L2.St → Hp → XK → Prop := fun σ H Q => ta σ H fun vs H1 => vs.length = ps.length ∧ (∀ v ∈ vs, flW v = true) ∧ ∀ d, H1 d = none → Q (.ref C) (some d) (upd H1 d (.xd (ps.zip vs)))
theorem pmk_xc {x : Str} {ta : TA} {p pos : Pos} {k : Nat} (Z : XcK X.K X.mg file C fI ps) (hm : X.mg x = some (.ref C)) (hfile : (X.prog.main.file == file) = true) (htop : (X.prog.main.scope.names.lookup ("super" : Str)).isSome = false) (hr : Room k X.A) (ha : PA X (a :: as) ta) (hg : Gl X x) (hdb : (x == ("__debug__" : Str)) = false)
    (he : starEach (a :: as) X.env = (false, eval a X.env) :: starEach as X.env) (hpl : (backTo pos (starEach as X.env)).any (·.1) = false) :
    PMk X (.Call (.Name x p) (a :: as) [] pos) (tMkX C ps ta) := by
  intro pins s σ H Q I h
  refine wpAny_Call_Name_kw (ld_glob I hg hm ?_ hdb)
  refine PySem.W.callWith_K (h₀ := X.base) I.ok.mod.kin Z.T.kC (thn (ha.run pos pins s σ H _ I h) fun us s1 hh => ?_) he hpl
  obtain ⟨vs, H1, I1, r1, hl, hv, q1⟩ := hh
  refine ⟨I1.kIn, ?_⟩
  show wpAny _ _ (call (.ref C) us) _ _ _
  have hlim := I1.nolimit
  obtain ⟨mb, b1, b2⟩ := I1.mod.blt
  have gl := I1.mod.glob.keeps I1.bk
  have bl := b1.keeps I1.bk
  obtain ⟨hp, g, dr, tk, os⟩ := s1
  refine wpAny_call (exc_made Z hfile htop I1.kIn hlim gl ⟨mb, bl, b2⟩ (by have := hr.dp; omega) (by rw [← r1.length]; exact hl) (flat_vals r1 hv) fun h' tk' e d M => ?_)
  show MkP X pins σ Q (.ref e) ⟨h', g, dr, tk', os⟩
  obtain ⟨t1, hoe⟩ := M.obj
  have hns := M.ns
  obtain ⟨G', g1, g2⟩ := restrict h' fun b => decide (b ≠ e)
  have gk : ∀ b, b ≠ e → G'.get? b = h'.get? b := fun b hb => g1 b (decide_eq_true hb)
  have ge : G'.get? e = none := g2 e (by simp)
  have old : ∀ b o, hp.get? b = some o → G'.get? b = some o := fun b o q => (gk b (Nat.ne_of_lt (Nat.lt_of_lt_of_le (Heap.lt_size q) M.new))).trans (M.keep b o q)
  have ob : ObjOk X.prog X.w (upd H1 d (.xd (ps.zip vs))) G' d (.xd (ps.zip vs)) := ⟨_, hns.at (fun o q => (gk d M.dne).trans q), fun f => relO_zip r1 f⟩
  have J : Inv X pins σ (upd H1 d (.xd (ps.zip vs))) ⟨G', g, dr, tk', os⟩ := I1.laid (t' := tk') old M.dbig ob
  refine ⟨e, _, _, ⟨G', g, dr, tk', os⟩, _, .ref C, some d, rfl, J, fun b o q => ?_, ge, hoe, ⟨rfl, rfl⟩, rfl, rfl, ?_, rfl, I1.bare, raises_own Z.T.exC Z.T.tyC, q1 d (I1.hok.fresh M.dbig)⟩
  · by_cases hb : b = e
    · have q' : G'.get? b = some o := q
      rw [hb, ge] at q'; cases q'
    · exact (gk b hb).symm.trans q
  · rw [upd_ne (Ne.symm M.dne)]
    exact I1.hok.fresh M.new
end
/-- raise c(..) -/
def raisM (c : Str) (fs : List Str) (m : ME (List D)) : MS := fun env s => bs (m env s) env fun ds s1 => if ds.length = fs.length ∧ ds.all flD = true then .ok (.ex c (fs.zip ds), env) s1 else .bad
theorem zip_fst {α : Type} : ∀ {ps : List Str} {vs : List α}, vs.length = ps.length → (ps.zip vs).map (·.1) = ps := fun {ps vs} h => by rw [List.map_fst_zip (by omega)]
theorem zip_snd {α : Type} : ∀ {ps : List Str} {vs : List α}, vs.length = ps.length → (ps.zip vs).map (·.2) = vs := fun {ps vs} h => by rw [List.map_snd_zip (by omega)]
theorem flall : ∀ {ds : List D} {vs : List V} {K : Frag} {g : Gh} {H : Hp}, RDs K g H ds vs → ds.all flD = true → ∀ v ∈ vs, flW v = true
  | [], vs, K, g, H, r, _, v, hv => by cases r; cases hv
  | d :: ds, vs, K, g, H, r, h, v, hv => by
    obtain ⟨u, us, rfl, r1, r2⟩ := r
    rw [List.all_cons, Bool.and_eq_true] at h
    rcases List.mem_cons.mp hv with rfl | hv
    · exact flD_flW h.1 r1
    · exact flall r2 h.2 v hv
theorem ps_rais {X : Cx} {W : WX} {fI : Addr} {file : Str} {ps : List Str} {a : Expr} {as : List Expr} {cn x : Str} {p pos pos2 : Pos} {k : Nat} {mes : ME (List D)} (hc : X.calm = true) (tk : Takes X W) (Z : XcK X.K X.mg file (He.ga X.K cn) fI ps) (hm : X.mg x = some (.ref (He.ga X.K cn)))
    (hfile : (X.prog.main.file == file) = true) (htop : (X.prog.main.scope.names.lookup ("super" : Str)).isSome = false) (hr : Room k X.A) (ha : PL X W (a :: as) mes) (hg : Gl X x) (hdb : (x == ("__debug__" : Str)) = false)
    (he : starEach (a :: as) X.env = (false, eval a X.env) :: starEach as X.env) (hpl : (backTo pos (starEach as X.env)).any (·.1) = false) :
    PSX X W (.Raise (some (.Call (.Name x p) (a :: as) [] pos)) none pos2) (raisM cn ps mes) := by
  refine PS.imp (ps_raise hc tk (pmk_xc Z hm hfile htop hr ha hg hdb he hpl)) fun σ H D h => ?_
  refine (TS'.bind (rel := RDs X.K) h).imp fun vs H1 ⟨g1, ds, s1, env, R1, E1, r1, p1⟩ => ?_
  by_cases z : ds.length = ps.length ∧ ds.all flD = true
  · rw [if_pos z] at p1
    obtain ⟨z1, z2⟩ := z
    have lv : vs.length = ps.length := by rw [← r1.length]; exact z1
    refine ⟨lv, flall r1 z2, fun d hd => ?_⟩
    have st := stp_new (o := .xd (ps.zip vs)) R1 hd
    refine p1 g1 _ σ st (R1.new hd) (E1.mono st.toStp0) (some d) ?_
    cases hz : ps.zip ds with
    | nil =>
      have : (ps.zip ds).length = 0 := by rw [hz]; rfl
      have ne := Z.few.1
      rw [List.length_zip, z1, Nat.min_self] at this
      exact absurd (List.length_eq_zero_iff.mp this) ne
    | cons q qs =>
      refine ⟨d, ps.zip vs, rfl, upd_same, ?_, ?_⟩
      · rw [← hz, zip_fst lv, zip_fst z1]
      · rw [← hz, zip_snd lv, zip_snd z1]
        exact RDs.mono st.toStp0 _ _ r1
  · rw [if_neg z] at p1
    exact p1.elim
end Co
namespace Co
open PySem PySem.Spec PyProof.Rows L2
/-! ### isinstance(x, T), x of the type T itself -/
def tyD (d : D) (s : S) : Option String := match d with
  | .int _ => some "int"
  | .str _ => some "str"
  | .tup _ => some "tuple"
  | .ct _ => some "tuple"
  | .lv _ => some "list"
  | .sc _ => some "list"
  | .ref a => match s.heap a with
    | some (.lst _) => some "list"
    | some (.dK _) => some "dict"
    | some (.dT _) => some "dict"
    | _ => none
  | _ => none
def isiF (T : String) (d : D) (s : S) : R D := if tyD d s = some T then .ok (.bl true) s else .bad
theorem tyD_ok {K : Frag} {g : Gh} {s : S} {H : Hp} {d : D} {v : V} {T : String} (R : Rel K g s H) (r : RD K g H d v) (h : tyD d s = some T) : TyX K H v (.type T) := by
  cases d with
  | int i => cases h; cases r; exact .base (.int i)
  | str x => cases h; cases r; exact .base (.str x)
  | tup ds => cases h; obtain ⟨p, vs, rfl, h1, _⟩ := r; exact .base (.tup h1)
  | ct ds =>
    cases h
    obtain ⟨p, vs, rfl, h1, _⟩ := r
    rcases h1 with ⟨o, h1, _⟩ | ⟨o, its, n, h1, h2, _⟩
    · exact .fTuple h1
    · exact .kTuple h1 h2
  | lv ds => cases h; obtain ⟨p, vs, rfl, _, h1, _⟩ := r; exact .base (.lst h1)
  | sc ds =>
    cases h
    obtain ⟨p, vs, rfl, h1, _⟩ := r
    rcases h1 with ⟨o, h1⟩ | ⟨o, its, n, h1, h2, _⟩
    · exact .base (.frz h1)
    · exact .kList h1 h2
  | ref a =>
    obtain ⟨p, rfl, hm⟩ := r
    replace h : (match s.heap a with
      | some (.lst _) => some "list"
      | some (.dK _) => some "dict"
      | some (.dT _) => some "dict"
      | _ => none) = some T := h
    cases e : s.heap a with
    | none => rw [e] at h; cases h
    | some o =>
      rw [e] at h
      obtain ⟨q, h1, _, h3⟩ := R.obj a o e
      rw [hm] at h1
      cases h1
      cases o with
      | lst ds => cases h; obtain ⟨vs, h4, _⟩ := h3; exact .base (.lst h4)
      | dK kvs => cases h; obtain ⟨vs, h4, _⟩ := h3; exact .base (.dK h4)
      | dT kvs => cases h; obtain ⟨vs, h4, _⟩ := h3; exact .base (.dT h4)
      | _ => cases h
  | _ => cases h
theorem px_isi {X : Cx} {W : WX} {e : Expr} {m : ME D} {T : Str} {t : String} {p q pos : Pos} (hg : Gl X "isinstance") (hm : X.mg "isinstance" = none) (hgT : Gl X T) (hmT : X.mg T = none) (hbT : bootBuiltins T = some (.type t)) (hnT : T ≠ "__name__") (hdT : (T == ("__debug__" : Str)) = false)
    (he : starEach [e, .Name T q] X.env = (false, eval e X.env) :: starEach [.Name T q] X.env) (hpl : (backTo pos (starEach [.Name T q] X.env)).any (·.1) = false) (h : PX X W e m) :
    PX X W (.Call (.Name "isinstance" p) [e, .Name T q] [] pos) (op1M (isiF t) m) := by
  have ha : PA X [e, .Name T q] (tCons (TE' X.K W m) (tCons (tC (.ty t)) tNil)) := pa_cons h (pa_cons (pe_bltn hgT hmT hbT rfl hnT hdT) pa_nil rfl) he
  refine PE.imp (pe_callB call_isi hg hm (by first | boot_by_name | rfl | kernel_rfl) ha (by decide) (by decide) he hpl) fun σ H Q hq => ?_
  refine (TX.bind (rel := RD X.K) hq).imp fun v H1 ⟨g1, x, s1, env, R1, E1, r1, p1⟩ => ?_
  unfold isiF at p1
  by_cases z : tyD x s1 = some t
  · rw [if_pos z] at p1
    refine ⟨v, .ty t, .type t, .type t, true, rfl, .ty t, tyD_ok R1 r1 z, ?_, p1 g1 H1 _ (.refl _ _) R1 rfl⟩
    unfold PySem.W.kitOne
    rw [if_pos (by simp)]
  · rw [if_neg z] at p1
    exact p1.elim
end Co
namespace Co
open PySem PySem.Spec PyProof.Rows L2
/-! ### what an except suite gives back, of the exception's class and fields alone -/
inductive SX where
  | fld (f : Str) | str (x : Str) | bl (b : Bool) | isE (c : Str) | eq (a b : SX) | and (a b : SX)
def flX (d : D) : Option D := match d with
  | .str x => some (.str x)
  | .int i => some (.int i)
  | _ => none
def sxV (c : Str) (ps : List Str) (fs : List (Str × D)) : SX → Option D
  | .fld f => if ps.any (fun p => p == f) = true then (fs.lookup f).bind flX else none
  | .str x => some (.str x)
  | .bl b => some (.bl b)
  | .isE d => if d = c then some (.bl true) else none
  | .eq a b => match sxV c ps fs a, sxV c ps fs b with
    | some (.str x), some (.str y) => some (.bl (decide (x = y)))
    | some (.int x), some (.int y) => some (.bl (decide (x = y)))
    | _, _ => none
  | .and a b => match sxV c ps fs a with
    | some (.bl true) => sxV c ps fs b
    | some (.bl false) => some (.bl false)
    | _ => none
def toV : D → V
  | .str x => .str x
  | .int i => .int i
  | .bl b => .bl b
  | _ => .non
/-- the text of such -/
def sxB (n : Str) (gl : Str → Bool) : SX → Expr → Bool
  | .fld f, .Attribute (.Name y _) g _ => y == n && f == g
  | .str x, .Constant (.str y) _ _ => x == y
  | .bl b, .Constant (.bool c) _ _ => b == c
  | .isE d, .Call (.Name z _) [.Name y _, .Name w _] [] _ => z == ("isinstance" : Str) && gl z && y == n && w == d && gl w && !(w == ("__debug__" : Str))
  | .eq a b, .Compare l [.Eq] [r] _ => (match r with
      | .Set _ _ _ => false
      | _ => true) && sxB n gl a l && sxB n gl b r
  | .and a b, .BoolOp .And [l, r] _ => sxB n gl a l && sxB n gl b r
  | _, _ => false
section
variable {X : Cx} {a : Addr} {oe : Obj} {pn : List (Addr × Obj)} {i : Nat} {n : Str} {c : Str} {ps : List Str} {fs : List (Str × D)} {dd : Addr} {file : Str} {fI : Addr}
/-- the exception stands in slot i, its fields at dd -/
def SPx (i : Nat) (a dd : Addr) (fs : List (Str × D)) (σ : L2.St) (H : Hp) : Prop := σ[i]? = some (some (.ref a)) ∧ ∃ ws, H dd = some (.xd ws) ∧ ∀ f d, (fs.lookup f).bind flX = some d → ws.lookup f = some (toV d)
theorem flX_toV {d e : D} (h : flX d = some e) : (∃ x, e = .str x) ∨ ∃ x, e = .int x := by
  cases d with
  | str x => cases h; exact .inl ⟨_, rfl⟩
  | int x => cases h; exact .inr ⟨_, rfl⟩
  | _ => cases h
theorem call_isX {C : Addr} (Z : XcK X.K X.mg file C fI ps) (hz : Zc (.ref C) (some dd) oe) (hf : ∃ vs, oe.data = .fields vs) :
    CallR (X.suite a ((a, oe) :: pn)) (.builtin "isinstance") (fun xs H Q => xs = [.ref a, .ref C] ∧ (∃ ws, H dd = some (.xd ws)) ∧ Q (.bl true) H) := by
  intro pins s σ H xs us Q I r h
  obtain ⟨rfl, ⟨ws, hw⟩, q⟩ := h
  cases r with
  | cons rx rr =>
    cases rr with
    | cons rt rr =>
      cases rr
      cases rx
      cases rt
      obtain ⟨hget, _⟩ := I.pin (a, oe) (List.mem_append.mpr (.inl List.mem_cons_self))
      obtain ⟨vs, hv⟩ := hf
      have hx : ObjOk X.prog X.w H s.heap dd (.xd ws) := I.hok dd _ hw
      obtain ⟨mA, hns, _⟩ := hx
      obtain ⟨od, ho, _⟩ := lookIn_ns hns
      have J : PySem.W.InstAt s.heap a oe C (some od) := ⟨hget, hz.1, by unfold PySem.W.notCls; rw [hv] <;> rfl, by rw [hz.2]; exact ho⟩
      obtain ⟨cd, hcd, _⟩ := PySem.W.any_some Z.X.hdC
      exact PySem.W.kia_one (PySem.W.kitx_exc (by rw [hcd]; rfl) Z.X.ga Z.X.gg Z.X.exC Z.ia Z.ig Z.it Z.im) I.kIn J (by unfold PySem.W.kitOne; rw [if_pos (by simp)]) (fun z => nomatch z) fun tk => ⟨.bl true, H, I.kept (t' := tk) fun _ _ z => z, rfl, q⟩
theorem sx_ok (hN : X.N[i]? = some n) (hvis : Vis X.env.scope n) (hnd : (n == ("__debug__" : Str)) = false) (hnc : (n == ("__classdict__" : Str)) = false) (Z : XcK X.K X.mg file (He.ga X.K c) fI ps) (hmc : X.mg c = some (.ref (He.ga X.K c))) (hmi : X.mg "isinstance" = none) {gl : Str → Bool} (hgl : ∀ x, gl x = true → Gl X x)
    (hz : Zc (.ref (He.ga X.K c)) (some dd) oe) (hf : ∃ vs, oe.data = .fields vs) : ∀ (q : SX) (e : Expr) (d : D), sxB n gl q e = true → sxV c ps fs q = some d → PE (X.suite a ((a, oe) :: pn)) e (fun σ H Q => SPx i a dd fs σ H ∧ Q (toV d) H)
  | .fld f, e, d, hb, hd => by
    unfold sxB at hb
    split at hb <;> first | exact absurd hb Bool.false_ne_true | skip
    all_goals first | contradiction | skip
    rename_i y yp g p h1
    cases h1
    rw [Bool.and_eq_true] at hb
    obtain rfl : y = n := beq_iff_eq.mp hb.1
    obtain rfl : f = g := beq_iff_eq.mp hb.2
    have hd : (if ps.any (fun p => p == f) = true then (fs.lookup f).bind flX else none) = some d := hd
    by_cases hp : ps.any (fun p => p == f) = true
    · rw [if_pos hp] at hd
      obtain ⟨p', hp', e'⟩ := List.any_eq_true.mp hp
      obtain rfl : p' = f := beq_iff_eq.mp e'
      refine PE.imp (pe_xf (d := some dd) Z.X (Z.noN p' hp') hz hf (pe_var hN hvis hnd hnc) rfl) fun σ H Q h => ?_
      obtain ⟨⟨h1, ws, h2, h3⟩, q⟩ := h
      exact ⟨.ref a, h1, rfl, rfl, dd, ws, toV d, rfl, h2, h3 p' d hd, q⟩
    · rw [if_neg hp] at hd; cases hd
  | .str x, e, d, hb, hd => by
    unfold sxB at hb
    split at hb <;> first | exact absurd hb Bool.false_ne_true | skip
    all_goals first | contradiction | skip
    rename_i y k p h1
    cases h1
    obtain rfl : x = y := beq_iff_eq.mp hb
    cases hd
    exact PE.imp pe_str fun σ H Q h => h.2
  | .bl x, e, d, hb, hd => by
    unfold sxB at hb
    split at hb <;> first | exact absurd hb Bool.false_ne_true | skip
    all_goals first | contradiction | skip
    rename_i y k p h1
    cases h1
    obtain rfl : x = y := by simpa using hb
    cases hd
    exact PE.imp pe_bl fun σ H Q h => h.2
  | .isE x, e, d, hb, hd => by
    unfold sxB at hb
    split at hb <;> first | exact absurd hb Bool.false_ne_true | skip
    all_goals first | contradiction | skip
    rename_i z zp y yp w wp p h1
    cases h1
    simp only [Bool.and_eq_true] at hb
    obtain ⟨⟨⟨⟨⟨b1, b2⟩, b3⟩, b4⟩, b5⟩, b6⟩ := hb
    obtain rfl : z = ("isinstance" : Str) := beq_iff_eq.mp b1
    obtain rfl : y = n := beq_iff_eq.mp b3
    obtain rfl : w = x := beq_iff_eq.mp b4
    have hd : (if w = c then some (.bl true) else none) = some d := hd
    by_cases hc : w = c
    · rw [if_pos hc] at hd
      cases hd
      subst hc
      have hst : starEach [.Name y yp, .Name w wp] X.env = (false, eval (.Name y yp) X.env) :: starEach [.Name w wp] X.env := rfl
      have hst2 : starEach [.Name w wp] X.env = (false, eval (.Name w wp) X.env) :: starEach [] X.env := rfl
      have ha : PA (X.suite a ((a, oe) :: pn)) [.Name y yp, .Name w wp] (tCons (tVar i) (tCons (tC (.ref (He.ga X.K w))) tNil)) := pa_cons (pe_var hN hvis hnd hnc) (pa_cons (pe_glob (hgl w b5) hmc rfl (by simpa using b6)) pa_nil hst2) hst
      refine PE.imp (pe_callB (call_isX Z hz hf) (hgl _ b2) hmi (by first | boot_by_name | rfl | kernel_rfl) ha (by decide) (by decide) hst rfl) fun σ H Q h => ?_
      obtain ⟨⟨h1, ws, h2, _⟩, q⟩ := h
      exact ⟨.ref a, h1, rfl, ⟨ws, h2⟩, q⟩
    · rw [if_neg hc] at hd; cases hd
  | .eq p q, e, d, hb, hd => by
    unfold sxB at hb
    split at hb <;> first | exact absurd hb Bool.false_ne_true | skip
    all_goals first | contradiction | skip
    rename_i p' q' l r pos h1
    cases h1
    simp only [Bool.and_eq_true] at hb
    obtain ⟨⟨b0, b1⟩, b2⟩ := hb
    have hd : (match sxV c ps fs p, sxV c ps fs q with
      | some (.str x), some (.str y) => some (D.bl (decide (x = y)))
      | some (.int x), some (.int y) => some (D.bl (decide (x = y)))
      | _, _ => none) = some d := hd
    have hbe : behindInMarks .Eq r = false := by
      cases r <;> first | rfl | exact absurd b0 Bool.false_ne_true
    split at hd
    · rename_i x y hx hy
      cases hd
      refine PE.imp (pe_cmpR op_eq (sx_ok hN hvis hnd hnc Z hmc hmi hgl hz hf p l _ b1 hx) (sx_ok hN hvis hnd hnc Z hmc hmi hgl hz hf q r _ b2 hy) hbe) fun σ H Q h => ?_
      refine ⟨h.1, h.1, rfl, ?_⟩
      have : decide (toV (.str x) = toV (.str y)) = decide (x = y) := by simp [toV]
      rw [this]
      exact h.2
    · rename_i x y hx hy
      cases hd
      refine PE.imp (pe_cmpR op_eq (sx_ok hN hvis hnd hnc Z hmc hmi hgl hz hf p l _ b1 hx) (sx_ok hN hvis hnd hnc Z hmc hmi hgl hz hf q r _ b2 hy) hbe) fun σ H Q h => ?_
      refine ⟨h.1, h.1, rfl, ?_⟩
      have : decide (toV (.int x) = toV (.int y)) = decide (x = y) := by simp [toV]
      rw [this]
      exact h.2
    · cases hd
  | .and p q, e, d, hb, hd => by
    unfold sxB at hb
    split at hb <;> first | exact absurd hb Bool.false_ne_true | skip
    all_goals first | contradiction | skip
    rename_i p' q' l r pos h1
    cases h1
    rw [Bool.and_eq_true] at hb
    have hd : (match sxV c ps fs p with
      | some (.bl true) => sxV c ps fs q
      | some (.bl false) => some (D.bl false)
      | _ => none) = some d := hd
    split at hd
    · rename_i hx
      refine PE.imp (pe_and (sx_ok hN hvis hnd hnc Z hmc hmi hgl hz hf p l _ hb.1 hx) (pe_one (sx_ok hN hvis hnd hnc Z hmc hmi hgl hz hf q r _ hb.2 hd))) fun σ H Q h => ?_
      refine ⟨h.1, true, rfl, ?_⟩
      rw [if_pos rfl]
      exact h
    · rename_i hx
      cases hd
      have hq : PE (X.suite a ((a, oe) :: pn)) (.BoolOp .And [r] pos) (fun _ _ _ => False) := ⟨fun pins s σ H Q I h => h.elim⟩
      refine PE.imp (pe_and (sx_ok hN hvis hnd hnc Z hmc hmi hgl hz hf p l _ hb.1 hx) hq) fun σ H Q h => ?_
      refine ⟨h.1, false, rfl, ?_⟩
      rw [if_neg Bool.false_ne_true]
      exact h.2
    · cases hd
end
/-! ### try: .. except x as n: return .. -/
def retX (r : Option D) (env : Env) (s : S) : R (Fl × Env) := match r with
  | some d => .ok (.rt d, env) s
  | none => .bad
def hdlM (cs : List (Str × List Str × Bool)) (q : SX) (c : Str) (fs : List (Str × D)) (env : Env) (s : S) : R (Fl × Env) := match cs.lookup c with
  | some (ps, true) => if fs.isEmpty = true then .bad else retX (sxV c ps fs q) env s
  | some (_, false) => .ok (.ex c fs, env) s
  | none => .bad
def tryM (b : MS) (cs : List (Str × List Str × Bool)) (q : SX) : MS := fun env s => match b env s with
  | .ok (.ex c fs, env1) s1 => hdlM cs q c fs env1 s1
  | r => r
theorem toV_rd {K : Frag} {g : Gh} {H : Hp} {d : D} (h : (∃ x, d = .str x) ∨ (∃ x, d = .int x) ∨ ∃ x, d = .bl x) : RD K g H d (toV d) := by
  rcases h with ⟨x, rfl⟩ | ⟨x, rfl⟩ | ⟨x, rfl⟩ <;> rfl
theorem sx_flat {c : Str} {ps : List Str} {fs : List (Str × D)} : ∀ {q : SX} {d : D}, sxV c ps fs q = some d → (∃ x, d = .str x) ∨ (∃ x, d = .int x) ∨ ∃ x, d = .bl x
  | .fld f, d, h => by
    have h : (if ps.any (fun p => p == f) = true then (fs.lookup f).bind flX else none) = some d := h
    split at h
    · obtain ⟨e, _, he⟩ := Option.bind_eq_some_iff.mp h
      rcases flX_toV he with ⟨x, rfl⟩ | ⟨x, rfl⟩
      · exact .inl ⟨x, rfl⟩
      · exact .inr (.inl ⟨x, rfl⟩)
    · cases h
  | .str x, d, h => by cases h; exact .inl ⟨x, rfl⟩
  | .bl x, d, h => by cases h; exact .inr (.inr ⟨x, rfl⟩)
  | .isE x, d, h => by
    have h : (if x = c then some (.bl true) else none) = some d := h
    split at h
    · cases h; exact .inr (.inr ⟨_, rfl⟩)
    · cases h
  | .eq p q, d, h => by
    have h : (match sxV c ps fs p, sxV c ps fs q with
      | some (.str x), some (.str y) => some (D.bl (decide (x = y)))
      | some (.int x), some (.int y) => some (D.bl (decide (x = y)))
      | _, _ => none) = some d := h
    split at h <;> cases h <;> exact .inr (.inr ⟨_, rfl⟩)
  | .and p q, d, h => by
    have h : (match sxV c ps fs p with
      | some (.bl true) => sxV c ps fs q
      | some (.bl false) => some (D.bl false)
      | _ => none) = some d := h
    split at h
    · exact sx_flat h
    · cases h; exact .inr (.inr ⟨_, rfl⟩)
    · cases h
theorem look_some : ∀ {fs : List (Str × D)} {ws : List (Str × V)} {K : Frag} {g : Gh} {H : Hp} {f : Str} {d : D}, ws.map (·.1) = fs.map (·.1) → RDs K g H (fs.map (·.2)) (ws.map (·.2)) → fs.lookup f = some d → ∃ v, ws.lookup f = some v ∧ RD K g H d v
  | [], ws, K, g, H, f, d, _, _, h => by cases h
  | (k, x) :: fs, [], K, g, H, f, d, e, _, _ => by cases e
  | (k, x) :: fs, (k', v) :: ws, K, g, H, f, d, e, r, h => by
    obtain ⟨e1, e2⟩ := List.cons.inj (show k' :: ws.map (·.1) = k :: fs.map (·.1) from e)
    obtain ⟨u, us, hu, r1, r2⟩ := r
    obtain ⟨h1, h2⟩ := List.cons.inj (show v :: ws.map (·.2) = u :: us from hu)
    subst h1 h2 e1
    rw [List.lookup_cons] at h ⊢
    cases z : f == k' with
    | true => rw [z] at h; cases h; exact ⟨v, rfl, r1⟩
    | false => rw [z] at h; exact look_some e2 r2 h
section
variable {X : Cx} {Wout : WX} {i : Nat} {n x cx file : Str} {cs : List (Str × List Str × Bool)} {q : SX} {mb : MS} {body : List Stmt} {e : Expr} {np pos pos' rp : Pos}
/-- the suite's reading -/
def tsX (X : Cx) (i : Nat) (q : SX) (cs : List (Str × List Str × Bool)) (a : Addr) (cls : Value) (d : Option Addr) : TS := fun D σ H => ∃ (c : Str) (ps : List Str) (fs : List (Str × Co.D)) (dd : Addr) (ws : List (Str × V)) (r : Co.D) (σ0 : L2.St),
  cs.lookup c = some (ps, true) ∧ cls = .ref (He.ga X.K c) ∧ d = some dd ∧ H dd = some (.xd ws) ∧ (∀ f d, (fs.lookup f).bind flX = some d → ws.lookup f = some (toV d)) ∧ σ = σ0.set i (some (.ref a)) ∧ sxV c ps fs q = some r ∧ D.rt (toV r) H
theorem ps_tryS (hs : X.stack = X.env :: X.outer) (hf : X.env.frame = some X.env.locals) (hN : X.N.Nodup) (hi : X.N[i]? = some n) (hln : X.env.kindOf n = some .local) (hnd : (n == ("__debug__" : Str)) = false) (hnc : (n == ("__classdict__" : Str)) = false)
    (hgx : Gl X cx) (hdx : (cx == ("__debug__" : Str)) = false) (hmx : X.mg cx = some (.ref (He.ga X.K cx))) (tk : Takes X Wout) (hmi : X.mg "isinstance" = none) {gl : Str → Bool} (hgl : ∀ x, gl x = true → Gl X x)
    (hcs : ∀ c ps b, cs.lookup c = some (ps, b) → PySem.W.exmOne X.K (.ref (He.ga X.K c)) (.ref (He.ga X.K cx)) = some b ∧ (∃ fI, XcK X.K X.mg file (He.ga X.K c) fI ps) ∧ X.mg c = some (.ref (He.ga X.K c)))
    (hb : ∀ (W : WX) (pn : List (Addr × Obj)) (xe : Value → Shared → Prop), Takes (X.tr pn xe) W → PassesOwn (model X.prog X.w) X.A X.env xe → PSB (X.tr pn xe) W body mb) (hq : sxB n gl q e = true) :
    PSX X Wout (.Try body [.ExceptHandler (some (.Name cx np)) (some n) [.Return (some e) rp] pos'] [] [] pos) (tryM mb cs q) := by
  have hvis : Vis X.env.scope n := .inl hln
  refine PS.imp (ps_try_as (tb := fun W => TS' X.K W mb) (ts := tsX X i q cs) hs hf hN hi hln ⟨hgx, hdx, .inl hmx⟩ tk hb fun a oe cls d pn hz hv => ?_) fun σ H D h => ?_
  · refine ⟨fun pins s σ H D I h => ?_⟩
    obtain ⟨c, ps, fs, dd, ws, r, σ0, h1, rfl, rfl, h4, h5, h6, h7, h8⟩ := h
    obtain ⟨_, ⟨fI, Z⟩, hmc⟩ := hcs c ps true h1
    have hlt : i < σ.length := by
      rw [I.len]
      exact (List.getElem?_eq_some_iff.mp hi).1
    refine (pss_cons (ps_ret (pos := rp) (sx_ok hi hvis hnd hnc Z hmc hmi hgl hz hv q e r hq h7)) pss_nil).run pins s σ H D I ?_
    refine ⟨⟨?_, ws, h4, h5⟩, h8⟩
    rw [h6]
    rw [h6, List.length_set] at hlt
    exact List.getElem?_set_self hlt
  · obtain ⟨g, s, env, R, E, p⟩ := h
    refine ⟨g, s, env, R, E, ?_⟩
    unfold tryM at p
    cases hm : mb env s with
    | exc c fs s1 => rw [hm] at p; exact p
    | bad => rw [hm] at p; exact p
    | ok fe s1 =>
      obtain ⟨f, env1⟩ := fe
      rw [hm] at p
      intro g' H' σ' st R' E'
      cases f with
      | nx => exact p g' H' σ' st R' E'
      | rt d => exact p g' H' σ' st R' E'
      | bk => exact p g' H' σ' st R' E'
      | ct => exact p g' H' σ' st R' E'
      | ex c fs =>
        intro d xf
        replace p : PostS X.K Wout g H (hdlM cs q c fs env1 s1) D := p
        unfold hdlM at p
        cases hc : cs.lookup c with
        | none => rw [hc] at p; exact p.elim
        | some pb =>
          obtain ⟨ps, b⟩ := pb
          rw [hc] at p
          obtain ⟨hex, _, _⟩ := hcs c ps b hc
          refine ⟨b, hex, fun eb a na => ?_, fun eb => ?_⟩
          · subst eb
            replace p : PostS X.K Wout g H (if fs.isEmpty = true then .bad else retX (sxV c ps fs q) env1 s1) D := p
            by_cases hfs : fs.isEmpty = true
            · rw [if_pos hfs] at p; exact p.elim
            · rw [if_neg hfs] at p
              have xf' : ∃ dx ws, d = some dx ∧ H' dx = some (.xd ws) ∧ ws.map (·.1) = fs.map (·.1) ∧ RDs X.K g' H' (fs.map (·.2)) (ws.map (·.2)) := by
                cases fs with
                | nil => exact absurd rfl hfs
                | cons f0 fs0 => exact xf
              obtain ⟨dx, ws, h1, h2, h3, h4⟩ := xf'
              cases hr : sxV c ps fs q with
              | none => rw [hr] at p; exact p.elim
              | some r =>
                rw [hr] at p
                refine ⟨c, ps, fs, dx, ws, r, σ', hc, rfl, h1, h2, fun f d hd => ?_, rfl, hr, p g' H' σ' st R' E' _ (toV_rd (sx_flat hr))⟩
                obtain ⟨x, hx, hfx⟩ := Option.bind_eq_some_iff.mp hd
                obtain ⟨v, hv, rv⟩ := look_some h3 h4 hx
                rw [hv]
                cases x with
                | str y => cases hfx; cases rv; rfl
                | int y => cases hfx; cases rv; rfl
                | _ => cases hfx
          · subst eb
            exact p g' H' σ' st R' E' d xf
end
end Co
namespace Co
open PySem PySem.Spec PyProof.Rows L2
/-! ### d.update(d2) -/
def rUpd (K : Frag) : V → List V → Hp → VK → Prop := fun x vs H Q => ∃ a b kvs more, x = .ref a ∧ vs = [.ref b] ∧ a ≠ b ∧ H a = some (.dK kvs) ∧ H b = some (.dK more) ∧ kvs.length + more.length ≤ sizeLine ∧ Q .non (upd H a (.dK (mergeK kvs more)))
theorem mt_upd {X : Cx} : MtM X "dict.update" (rUpd X.K) := by
  intro pins s σ H x vs v us Q I rx rv h
  obtain ⟨a, b, kvs, more, rfl, rfl, hne, ha, hb, hz, q⟩ := h
  cases rx
  obtain ⟨u, rfl, ru⟩ := rv.one
  cases ru
  have oa : ObjOk X.prog X.w H s.heap a (.dK kvs) := I.hok a _ ha
  have ob : ObjOk X.prog X.w H s.heap b (.dK more) := I.hok b _ hb
  obtain ⟨la, ma, va, ka, da⟩ := oa
  obtain ⟨lb, mb, vb, kb, db⟩ := ob
  have lk : va.length = kvs.length := (Paired.length ka).symm
  have lm : vb.length = more.length := (Paired.length kb).symm
  refine call_meetsIn PySem.F.slot_dict_update da.typeIs PySem.F.entry_dict_update (PySem.F.args_dict_update_2 _ _) (meets_dict_update (mixKind X.prog X.w) a b hne mb) ⟨va, vb, da, db, by rw [lk, lm]; exact hz, fun h' d1 d2 sb => ?_⟩
  have lz : (mergeK kvs more).length ≤ sizeLine := Nat.le_trans (length_mergeK more kvs) hz
  obtain ⟨o', ho', _⟩ := Heap.dictOf_iff.mp d1
  exact ⟨.non, _, I.write (t' := s.toks) (x := a) (e := a) (o := .dK (mergeK kvs more)) (by rw [ha]; exact True.intro) (.inl rfl) (fun c o hc e => (sb.2 c hc).trans e) ⟨o', ho'⟩ ⟨lz, ma, _, KV.merge kb ka, d1⟩, rfl, q⟩
def isDK (x : D) (s : S) : Bool := match x with
  | .ref a => match s.heap a with
    | some (.dK _) => true
    | _ => false
  | _ => false
def updF (x : D) (ds : List D) (s : S) : R D := match x, ds with
  | .ref a, [.ref b] => match s.heap a, s.heap b with
    | some (.dK kvs), some (.dK more) => if a ≠ b ∧ kvs.length + more.length ≤ LINE then .ok .non (s.upd a (.dK (mergeD kvs more))) else .bad
    | _, _ => .bad
  | _, _ => .bad
theorem ty_dK {K : Frag} : OpTy K "dict" isDK := by
  intro g s H x v R r h
  cases x with
  | ref a =>
    obtain ⟨p, rfl, hm⟩ := r
    replace h : (match s.heap a with
      | some (.dK _) => true
      | _ => false) = true := h
    split at h
    · rename_i kvs e
      obtain ⟨q, h1, _, ws, h3, _⟩ := R.obj a _ e
      rw [hm] at h1
      cases h1
      exact .inr (.inr (.inl ⟨rfl, .inl ⟨ws, h3⟩⟩))
    · cases h
  | _ => cases h
theorem opm_upd {K : Frag} : OpMt K (rUpd K) updF := by
  intro W g s H σ x ds v vs Q R rx rs h
  unfold updF at h
  split at h
  · rename_i a b
    split at h
    · rename_i kvs more ea eb
      by_cases z : a ≠ b ∧ kvs.length + more.length ≤ LINE
      · rw [if_pos z] at h
        obtain ⟨p, rfl, hm⟩ := rx
        obtain ⟨w, rfl, ⟨p2, rfl, hm2⟩⟩ := one_of rs rfl
        obtain ⟨q1, h1, hz1, ws, h3, h4, h5⟩ := R.obj a _ ea
        rw [hm] at h1; cases h1
        obtain ⟨q2, g1, hz2, us, g3, g4, g5⟩ := R.obj b _ eb
        rw [hm2] at g1; cases g1
        have ne : p ≠ p2 := fun e => z.1 (R.inj a b p _ _ ea eb hm (by rw [e]; exact hm2))
        have l1 : kvs.length = ws.length := by have := congrArg List.length h4; simpa using this.symm
        have l2 : more.length = us.length := by have := congrArg List.length g4; simpa using this.symm
        obtain ⟨m1, m2⟩ := merge_rel g4 g5 h4 h5
        have F := R.freeAt ea rfl hm
        have st := stp_free (o := .dK (mergeK ws us)) F.1 F.2
        refine ⟨p, p2, ws, us, rfl, rfl, ne, h3, g3, by rw [← l1, ← l2]; exact z.2, h g _ .non st (R.upd ea rfl hm ⟨mergeK ws us, upd_same, m1, RDs.mono st.toStp0 _ _ m2⟩) rfl⟩
      · rw [if_neg z] at h; exact h.elim
    · exact h.elim
  · exact h.elim
theorem px_upd {X : Cx} {W : WX} {o e : Expr} {apos cpos : Pos} {mo ma : ME D} (ho : PX X W o mo) (ha : PX X W e ma) (hbase : attributeBase o "update" X.env (eval o X.env) = eval o X.env)
    (hfew : ((backTo cpos (starEach [e] X.env)).all (fun x => !x.1) && (backToKw cpos (keywordEach [] X.env)).all (fun x => x.1.isSome) && decide (([e] : List Expr).length + ([] : List Keyword).length + (if ([] : List Keyword).isEmpty then 0 else 1) < 30)) = true)
    (hline : (apos.endLine == cpos.line) = true) (hs : starEach [e] X.env = (false, eval e X.env) :: starEach [] X.env) : PX X W (.Call (.Attribute o "update" apos) [e] [] cpos) (mthM isDK updF mo (consM ma nilM)) :=
  px_mt PySem.F.plainAttrs_dict PySem.F.slot_dict_update PySem.F.type_dict_update mt_upd opm_upd ty_dK ho (pl_cons hs ha pl_nil) hbase hfew hline hs rfl
/-! ### max of a list of numbers -/
def intsD : List D → Option (List Int)
  | [] => some []
  | .int i :: ds => (intsD ds).map (i :: ·)
  | _ => none
def maxI : Int → List Int → Int
  | m, [] => m
  | m, x :: xs => maxI (if x > m then x else m) xs
theorem maxI_ok : ∀ (xs : List Int) (m : Int), (maxI m xs = m ∨ maxI m xs ∈ xs) ∧ m ≤ maxI m xs ∧ ∀ y ∈ xs, y ≤ maxI m xs
  | [], m => ⟨.inl rfl, Int.le_refl _, fun y h => by cases h⟩
  | x :: xs, m => by
    obtain ⟨h1, h2, h3⟩ := maxI_ok xs (if x > m then x else m)
    have e : maxI m (x :: xs) = maxI (if x > m then x else m) xs := rfl
    rw [e]
    refine ⟨?_, ?_, fun y hy => ?_⟩
    · rcases h1 with h1 | h1
      · rw [h1]
        by_cases z : x > m
        · rw [if_pos z]; exact .inr List.mem_cons_self
        · rw [if_neg z]; exact .inl rfl
      · exact .inr (List.mem_cons_of_mem _ h1)
    · refine Int.le_trans ?_ h2
      by_cases z : x > m
      · rw [if_pos z]; omega
      · rw [if_neg z]; exact Int.le_refl _
    · rcases List.mem_cons.mp hy with rfl | hy
      · refine Int.le_trans ?_ h2
        by_cases z : y > m
        · rw [if_pos z]; exact Int.le_refl _
        · rw [if_neg z]; omega
      · exact h3 y hy
def maxlF (ds : List D) (s : S) : R D := match ds with
  | [d] => match (lstOf d s).bind intsD with
    | some (x :: xs) => .ok (.int (maxI x xs)) s
    | _ => .bad
  | _ => .bad
theorem intsD_ok {K : Frag} {g : Gh} {H : Hp} : ∀ {ds : List D} {vs : List V} {ns : List Int}, RDs K g H ds vs → intsD ds = some ns → vs = ns.map V.int
  | [], vs, ns, r, e => by cases e; cases r; rfl
  | d :: ds, vs, ns, r, e => by
    obtain ⟨v, us, rfl, r1, r2⟩ := r
    cases d with
    | int i =>
      replace e : (intsD ds).map (i :: ·) = some ns := e
      obtain ⟨ms, h1, rfl⟩ := Option.map_eq_some_iff.mp e
      cases r1
      rw [intsD_ok r2 h1]
      rfl
    | _ => cases e
theorem opn_maxl {K : Frag} : OpN K (rMax K) maxlF := by
  intro W g s H σ ds vs Q R r h
  unfold maxlF at h
  split at h
  · rename_i d
    split at h
    · rename_i x xs e
      obtain ⟨ys, h1, h2⟩ := Option.bind_eq_some_iff.mp e
      obtain ⟨v, rfl, rv⟩ := one_of r rfl
      obtain ⟨p, us, rfl, h3, h4⟩ := lst_ok R rv h1
      have ev := intsD_ok h4 h2
      subst ev
      refine ⟨p, x :: xs, rfl, h3, by simp, fun m hm hy => ?_⟩
      obtain ⟨k1, k2, k3⟩ := maxI_ok xs x
      have e2 : m = maxI x xs := by
        refine Int.le_antisymm ?_ ?_
        · rcases List.mem_cons.mp hm with rfl | hm
          · exact k2
          · exact k3 m hm
        · rcases k1 with k1 | k1
          · rw [k1]; exact hy x List.mem_cons_self
          · exact hy _ (List.mem_cons_of_mem _ k1)
      rw [e2]
      exact h g H _ (.refl _ _) R rfl
    · exact h.elim
  · exact h.elim
/-! ### == and != of two dicts whose values are all True -/
def deqV (ks ls : List (Key × V)) : Bool := ks.length == ls.length && ks.all fun p => (valV ls p.1).isSome
def allTV (ks : List (Key × V)) : Prop := ∀ p ∈ ks, p.2 = V.bl true
def rDeq (neg : Bool) : R2 := fun x y H Q => ∃ a b ks ls, x = .ref a ∧ y = .ref b ∧ H a = some (.dK ks) ∧ H b = some (.dK ls) ∧ allTV ks ∧ allTV ls ∧ Q (.bl (if neg then !deqV ks ls else deqV ks ls)) H
theorem valV_mem {ls : List (Key × V)} {k : Key} {u : V} (h : valV ls k = some u) : ∃ p ∈ ls, p.2 = u := by
  unfold valV at h
  obtain ⟨p, h1, h2⟩ := Option.map_eq_some_iff.mp h
  exact ⟨p, List.mem_of_find?_eq_some h1, h2⟩
theorem hits_true {A : Around} {s : Shared} {ls : List (Key × V)} {vb : List (Key × Value)} (rb : KV ls vb) (tb : allTV ls) {ks : List (Key × V)} {va : List (Key × Value)} (ra : KV ks va) :
    allTV ks → PySem.W.KeqHits A s vb va (ks.all fun p => (valV ls p.1).isSome) := by
  unfold KV at ra
  induction ra with
  | nil => intro _; exact .nil
  | @cons p q ps qs h t k =>
    intro hp
    obtain ⟨h1, h2⟩ := h
    obtain ⟨key, v⟩ := q
    have h1' : p.1 = key := h1
    have rr : RelO (valV ls p.1) (valueAt vb p.1) := rb.val p.1
    have ep : p.2 = V.bl true := hp p List.mem_cons_self
    have ev : v = Value.bool true := by
      have z : RelV p.2 v := h2
      rw [ep] at z
      exact z
    rw [h1'] at rr
    rw [List.all_cons, h1']
    cases e : valV ls key with
    | none =>
      rw [e] at rr
      have z : valueAt vb key = none := rr.none_of
      exact .miss z
    | some u =>
      rw [e] at rr
      obtain ⟨y, hy, ry⟩ := rr.some_of
      obtain ⟨r, hr, er⟩ := valV_mem e
      have eu : u = V.bl true := er.symm.trans (tb r hr)
      rw [eu] at ry
      have ey : y = Value.bool true := ry
      rw [ey] at hy
      rw [ev]
      exact .hit hy (SeqAt.EqAt.bool_bool true true) (k fun p' hm => hp p' (List.mem_cons_of_mem _ hm))
theorem or_deq {X : Cx} {neg : Bool} (hu : X.A.units + 64 < cLine) : OpR X (compareOp (if neg then .NotEq else .Eq)) (rDeq neg) := by
  intro pins s σ H x y v u Q I rx ry ⟨a, b, ks, ls, e1, e2, ha, hb, ta, tb, q⟩
  subst e1; subst e2
  cases (show v = Value.ref a from rx)
  cases (show u = Value.ref b from ry)
  obtain ⟨_, ya, va, ra, da⟩ := (show ObjOk X.prog X.w H s.heap a (.dK ks) from I.hok a _ ha)
  obtain ⟨_, yb, vb, rb, db⟩ := (show ObjOk X.prog X.w H s.heap b (.dK ls) from I.hok b _ hb)
  have l1 : va.length = ks.length := (Paired.length ra).symm
  have l2 : vb.length = ls.length := (Paired.length rb).symm
  cases neg with
  | false =>
    refine PySem.W.keq_eq (knd := mixKind X.prog X.w) ya yb da db (by omega) (fun _ => hits_true rb tb ra ta) ?_
    rw [l1, l2]
    exact ⟨.bl _, H, I, rfl, q⟩
  | true =>
    refine PySem.W.keq_ne (knd := mixKind X.prog X.w) ya yb da db (by omega) (fun _ => hits_true rb tb ra ta) ?_
    rw [l1, l2]
    exact ⟨.bl _, H, I, rfl, q⟩
def allTD (ks : List (Key × D)) : Bool := ks.all fun p => match p.2 with
  | .bl true => true
  | _ => false
def deqD (ks ls : List (Key × D)) : Bool := ks.length == ls.length && ks.all fun p => (getK ls p.1).isSome
def deqF (neg : Bool) (x y : D) (s : S) : R D := match x, y with
  | .ref a, .ref b => match s.heap a, s.heap b with
    | some (.dK ks), some (.dK ls) => if allTD ks = true ∧ allTD ls = true then .ok (.bl (if neg then !deqD ks ls else deqD ks ls)) s else .bad
    | _, _ => .bad
  | _, _ => .bad
theorem allT_ok {K : Frag} {g : Gh} {H : Hp} : ∀ {ks : List (Key × D)} {ws : List (Key × V)}, RDs K g H (ks.map (·.2)) (ws.map (·.2)) → allTD ks = true → allTV ws
  | [], [], _, _ => fun p h => by cases h
  | [], w :: ws, r, _ => by cases r
  | k :: ks, [], r, _ => by
    obtain ⟨v, us, e, _, _⟩ := r
    cases e
  | k :: ks, w :: ws, r, h => by
    obtain ⟨v, us, e, r1, r2⟩ := r
    simp only [List.map_cons, List.cons.injEq] at e
    unfold allTD at h
    rw [List.all_cons, Bool.and_eq_true] at h
    intro p hp
    rcases List.mem_cons.mp hp with z | z
    · subst z
      rw [e.1]
      have h1 := h.1
      replace r1 : RD K g H k.2 v := r1
      cases ek : k.2 with
      | bl b =>
        rw [ek] at h1 r1
        cases b with
        | true => exact r1
        | false => cases h1
      | _ => rw [ek] at h1; cases h1
    · have r3 : RDs K g H (ks.map (·.2)) (ws.map (·.2)) := by rw [e.2]; exact r2
      exact allT_ok r3 h.2 p z
theorem all_getK {K : Frag} {g : Gh} {H : Hp} {ls : List (Key × D)} {us : List (Key × V)} (e : us.map (·.1) = ls.map (·.1)) (r : RDs K g H (ls.map (·.2)) (us.map (·.2))) : ∀ {ks : List (Key × D)} {ws : List (Key × V)}, ws.map (·.1) = ks.map (·.1) →
    (ws.all fun p => (valV us p.1).isSome) = ks.all fun p => (getK ls p.1).isSome
  | [], [], _ => rfl
  | [], w :: ws, h => by cases h
  | k :: ks, [], h => by cases h
  | k :: ks, w :: ws, h => by
    simp only [List.map_cons, List.cons.injEq] at h
    rw [List.all_cons, List.all_cons, all_getK e r h.2, h.1]
    congr 1
    obtain ⟨h1, h2⟩ := getK_pair k.1 e r
    cases q : getK ls k.1 with
    | none => rw [h1 q]; rfl
    | some d =>
      obtain ⟨x, hx, _⟩ := h2 d q
      rw [hx]; rfl
theorem op2_deq {K : Frag} {neg : Bool} : Op2 K (rDeq neg) (deqF neg) := by
  intro W g s H σ x y v w Q R rx ry h
  unfold deqF at h
  split at h
  · rename_i a b
    split at h
    · rename_i ks ls ea eb
      by_cases z : allTD ks = true ∧ allTD ls = true
      · rw [if_pos z] at h
        obtain ⟨p, rfl, hm⟩ := rx
        obtain ⟨p2, rfl, hm2⟩ := ry
        obtain ⟨q1, h1, hz1, ws, h3, h4, h5⟩ := R.obj a _ ea
        rw [hm] at h1; cases h1
        obtain ⟨q2, g1, hz2, us, g3, g4, g5⟩ := R.obj b _ eb
        rw [hm2] at g1; cases g1
        refine ⟨p, p2, ws, us, rfl, rfl, h3, g3, allT_ok h5 z.1, allT_ok g5 z.2, ?_⟩
        have e1 : ws.length = ks.length := by have := congrArg List.length h4; simpa using this
        have e2 : us.length = ls.length := by have := congrArg List.length g4; simpa using this
        have e : deqV ws us = deqD ks ls := by
          unfold deqV deqD
          rw [e1, e2, all_getK g4 g5 h4]
        rw [e]
        exact post_ok (d := .bl _) R rfl h
      · rw [if_neg z] at h; exact h.elim
    · exact h.elim
  · exact h.elim
end Co
/-! t[::-1], t a tuple -/
namespace HT
open PySem PySem.Spec PyProof.Rows L2
section
variable {prog : Program} {w : World} {A : Around} {E : Value → Shared → Prop} {s : Shared}
theorem places_rev (n : Nat) : Builtin.Slice.slicePlaces ((n : Int) - 1) (-1) (-1) = n := by
  unfold Builtin.Slice.slicePlaces
  have h1 : ¬ ((-1 : Int) > 0) := by omega
  have h2 : (-(-1 : Int)) = 1 := by omega
  simp only [h1, if_false, h2, Int.ediv_one]
  split <;> omega
theorem sliceApplied_rev {sl : Addr} {vl vu vs : Value} {n : Nat} {Q : Int × Int × Nat → Shared → Prop} (hs : s.heap.IsSliceOf sl vl vu vs) (pl : IsPart vl none) (pu : IsPart vu none) (ps : IsPart vs (some (-1)))
    (h : Q ((n : Int) - 1, -1, n) s) : wpAny (model prog w) A (Builtin.Slice.sliceApplied (.ref sl) (pure (n : Int))) Q E s := by
  obtain ⟨os, hos, hcs, hds⟩ := id hs
  unfold Builtin.Slice.sliceApplied Builtin.Slice.sliceFields
  refine wpAny_bind (wpAny_bind (wpAny_field hos hds (x := vl) rfl (wpAny_bind (wpAny_field hos hds (x := vu) rfl (wpAny_bind (wpAny_field hos hds (x := vs) rfl (wpAny_pure ?_)))))))
  refine wpAny_bind (slicePart_ ps ?_)
  show wpAny _ _ (if ((-1 : Int) == 0) = true then _ else _) _ _ s
  rw [if_neg (by decide)]
  refine wpAny_bind (slicePart_ pl (wpAny_bind (slicePart_ pu (wpAny_bind (wpAny_pure ?_)))))
  show wpAny _ _ (pure ((n : Int) - 1, (-1 : Int), Builtin.Slice.slicePlaces ((n : Int) - 1) (-1) (-1))) _ _ s
  rw [places_rev]
  exact wpAny_pure h
theorem fm_congr {α β : Type} {f g : α → Option β} : ∀ {l : List α}, (∀ x ∈ l, f x = g x) → l.filterMap f = l.filterMap g
  | [], _ => rfl
  | x :: l, h => by rw [List.filterMap_cons, List.filterMap_cons, h x List.mem_cons_self, fm_congr fun y hy => h y (List.mem_cons_of_mem _ hy)]
theorem pick_rev (xs : Array Value) : ((List.range xs.size).filterMap fun (m : Nat) => xs[((xs.size : Int) - 1 + (m : Int) * (-1)).toNat]?).toArray = xs.toList.reverse.toArray := by
  congr 1
  have key : ∀ (n : Nat) (l : List Value), n = l.length → ((List.range n).filterMap fun (m : Nat) => l[((n : Int) - 1 + (m : Int) * (-1)).toNat]?) = l.reverse := by
    intro n l e
    have e1 : ((List.range n).filterMap fun (m : Nat) => l[((n : Int) - 1 + (m : Int) * (-1)).toNat]?) = (List.range n).filterMap fun m => l.reverse[m]? := by
      refine fm_congr fun m hm => ?_
      have hm' := List.mem_range.mp hm
      rw [List.getElem?_reverse (by omega)]
      congr 1
      omega
    rw [e1]
    have e2 : n = l.reverse.length := by rw [List.length_reverse]; exact e
    rw [e2]
    generalize l.reverse = r
    clear e1 e2 e
    induction r with
    | nil => rfl
    | cons x r ih =>
      rw [List.length_cons, List.range_succ_eq_map, List.filterMap_cons]
      show x :: _ = _
      rw [List.filterMap_map]
      congr 1
  have := key xs.size xs.toList (by simp)
  simpa using this
theorem getItem_tuple_rev {t sl : Addr} {items : Array Value} {vl vu vs : Value} {Q : Value → Shared → Prop} (ht : IsTup s.heap t items) (hs : s.heap.IsSliceOf sl vl vu vs) (pl : IsPart vl none) (pu : IsPart vu none) (ps : IsPart vs (some (-1)))
    (h : Q (.ref s.heap.objs.size) { s with heap := s.heap.push { cls := .type "tuple", data := .seq items.toList.reverse.toArray } })
    (hsz : items.size ≤ sizeLine) : wpAny (model prog w) A (getItem (.ref t) (.ref sl)) Q E s := by
  have htake : sizeOk (.seq items.toList.reverse.toArray) := by
    show items.toList.reverse.toArray.size ≤ sizeLine
    rw [List.size_toArray, List.length_reverse, Array.length_toList]
    exact hsz
  obtain ⟨os, hos, hcs, hds⟩ := id hs
  have hTs : s.TypeIs (.ref sl) "slice" := ⟨os, hos, hcs⟩
  unfold getItem
  try with_reducible refine wpAny_holding ?_
  first | refine wpAny_bind (wpAny_pure ?_) | skip
  refine wpAny_bind (wpAny_sequenceKey ht.typeIs (by decide) ?_)
  refine wpAny_bind (wpAny_callSpecial?_slot (name := Str.ofString "__getitem__") ht.typeIs PyProof.Rows.slot_tuple_getitem
    (wpAny_call_entry PyProof.Rows.slot_tuple_getitem ht.typeIs entry_tuple_getitem ?_ (args_tuple_getitem _ _)))
  show wpAny _ _ (Builtin.Tuple.tupleItemsOf (.ref t) >>= _) _ _ s
  refine wpAny_bind (tupleItemsOf_ ht ?_)
  refine wpAny_bind (wpAny_typeOf hTs ?_)
  rw [if_pos (by decide)]
  refine wpAny_bind (sliceApplied_rev hs pl pu ps ?_)
  have hno : ¬ ((((items.size : Int) - 1) == 0 && (-1 : Int) == 1 && items.size == items.size) = true) := by
    intro q
    rw [Bool.and_eq_true, Bool.and_eq_true] at q
    exact absurd q.1.2 (by decide)
  show wpAny _ _ (if (((items.size : Int) - 1) == 0 && (-1 : Int) == 1 && items.size == items.size) = true then _ else _) _ _ s
  rw [if_neg hno, pick_rev]
  first
    | exact wpAny_bind (m := Builtin.Tuple.tupleExact _) (wpAny_newObj_type (wpAny_pure ⟨_, rfl, wpAny_pure h⟩) htake)
    | exact wpAny_bind (m := Builtin.Tuple.tupleExact _) (wpAny_newObj_type (wpAny_bind (wpAny_pure (wpAny_pure ⟨_, rfl, wpAny_pure h⟩))) htake)
    | exact wpAny_bind (wpAny_bind (m := Builtin.Tuple.tupleExact _) (wpAny_newObj_type (wpAny_pure (wpAny_pure ⟨_, rfl, wpAny_pure h⟩)) htake))
    | exact wpAny_bind (wpAny_bind (m := Builtin.Tuple.tupleExact _) (wpAny_newObj_type (wpAny_pure ⟨_, rfl, wpAny_pure h⟩) htake))
end
end HT
namespace Co
open PySem PySem.Spec PyProof.Rows L2
def tRevT (K : PySem.W.Frag) (te : TE) : TE := fun σ H Q => te σ H fun x H1 => ∃ a xs, x = .ref a ∧ SqT K H1 a xs ∧ ∀ p, H1 p = none → Q (.ref p) (upd H1 p (.tup xs.reverse))
theorem pe_revT {X : Cx} {te : TE} {e : Expr} {k : Nat} {p1 p2 p3 pos : Pos} (he : PE X e te) : PE X (.Subscript e (.Slice none none (some (.UnaryOp .USub (.Constant (.int 1) k p1) p2)) p3) pos) (tRevT X.K te) := by
  refine ⟨fun pins s σ H Q I h => ?_⟩
  refine Subscript_ (thn (he.run pins s σ H _ I h) fun v s1 ⟨x, H1, I1, r1, q1⟩ => ?_)
  obtain ⟨a, xs, ex, hx, q⟩ := q1
  subst ex
  cases r1
  have hst : PO X (some (.UnaryOp .USub (.Constant (.int 1) k p1) p2)) (tPart (tUn (rU fun i => .int (-i)) (tC (.int 1)))) := po_some (pe_un un_neg pe_int)
  refine wpAny_Slice (thn (po_none.run pins s1 σ H1 (fun o H2 => o = none ∧ H2 = H1) I1 ⟨rfl, rfl⟩) fun vl s2 ⟨l, H2, I2, pl, el, e2⟩ => ?_)
  subst el e2
  refine thn (po_none.run pins s2 σ H2 (fun o H3 => o = none ∧ H3 = H2) I2 ⟨rfl, rfl⟩) fun vu s3 ⟨u, H3, I3, pu, eu, e3⟩ => ?_
  subst eu e3
  refine thn (hst.run pins s3 σ H3 (fun o H4 => o = some (-1) ∧ H4 = H3) I3 ⟨1, rfl, -1, rfl, rfl, rfl⟩) fun vs s4 ⟨o, H4, I4, ps, eo, e4⟩ => ?_
  subst eo e4
  have I5 : Inv X pins σ H4 { s4 with heap := s4.heap.push { cls := .type "slice", data := .fields #[vl, vu, vs] } } := I4.kept (t' := s4.toks) fun b ob q => Heap.get?_push_of_some _ q
  obtain ⟨its, r, ht, hz⟩ := I5.tuple hx
  have hlen := r.length
  show wpAny (model X.prog X.w) X.A (subscriptTail e (.Slice none none (some (.UnaryOp .USub (.Constant (.int 1) k p1) p2)) p3) (.ref a) (.ref s4.heap.objs.size)) (EP X pins σ Q) X.xe { s4 with heap := s4.heap.push { cls := .type "slice", data := .fields #[vl, vu, vs] } }
  refine tail_any (ops := [.ref a, .ref s4.heap.objs.size]) ht.typeIs (PyProof.Rows.slot_tuple_getitem.lookup) ?_ (by with_unfolding_all rfl)
  refine HT.getItem_tuple_rev ht (Heap.IsSliceOf.new _ vl vu vs) pl pu ps ?_ (by rw [List.size_toArray]; omega)
  refine ⟨.ref _, _, I5.laid (t' := s4.toks) (o := .tup xs.reverse) (fun b ob q => Heap.get?_push_of_some _ q) (Nat.le_refl _) ?_, rfl, q _ (I5.hok.fresh (Nat.le_refl _))⟩
  exact ⟨by rw [List.length_reverse]; exact hz, _, r.reverse, IsTup.new _ _⟩
def revTF (x : D) (s : S) : R D := match x with
  | .tup ds => .ok (.tup ds.reverse) s
  | _ => .bad
theorem px_revT {X : Cx} {W : WX} {a : Expr} {ma : ME D} {k : Nat} {p1 p2 p3 pos : Pos} (ha : PX X W a ma) : PX X W (.Subscript a (.Slice none none (some (.UnaryOp .USub (.Constant (.int 1) k p1) p2)) p3) pos) (op1M revTF ma) := by
  refine PE.imp (pe_revT ha) fun σ H Q h => (TX.bind (rel := RD X.K) h).imp fun v H1 ⟨g1, x, s1, env, R1, E1, r1, p1⟩ => ?_
  unfold revTF at p1
  cases x with
  | tup ds =>
    obtain ⟨p, vs, rfl, e2, e3⟩ := r1
    exact ⟨p, vs, rfl, .of e2, fun q hq => p1 g1 _ _ (stp_new R1 hq) (R1.new hq) ⟨q, _, rfl, upd_same, RDs.mono (stp_new R1 hq).toStp0 _ _ e3.reverse⟩⟩
  | _ => exact p1.elim
end Co
/-! x in a tuple of data; a list == [] -/
namespace PySem.SeqAt
open PySem PySem.Calls PyProof.Rows
section
variable {prog : Program} {w : World}
theorem list_eq_sizes (l b : Addr) (items items2 : Array Value) (n n2 : Nat) (dd dd2 : Option Addr) (sl sl2 : Array (Option Value)) (hsz : items.size ≠ items2.size) :
    MeetsIn prog w (Builtin.«list.__eq__» ⟨[.ref l, .ref b], []⟩)
      (fun A R s => s.heap.get? l = some { cls := .type "list", dict := dd, data := .seq items n, slots := sl } ∧ s.heap.get? b = some { cls := .type "list", dict := dd2, data := .seq items2 n2, slots := sl2 } ∧
        R (.ok (.ret (.bool false))) s) := by
  intro A R s h
  obtain ⟨hp, g, d, tk, os⟩ := s; obtain ⟨hl, hb, h⟩ := h
  have f3 := AutoSeq1.sub_list_list
  have hne : (items.size != items2.size) = true := by simp [hsz]
  wp_walk using wpAny_loadPart' hl, wpAny_loadPart' hb
  exact h
theorem rcP_sizes {A : Around} {s : Shared} {l b : Addr} {items items2 : Array Value} (hl : s.heap.IsList l items) (hb : s.heap.IsList b items2) (hsz : items.size ≠ items2.size) (hu : A.units < cLine)
    (E Q : Value → Shared → Prop) (h : Q (.bool false) s) : wpAny (model prog w) A (richCompare .Eq (.ref l) (.ref b)) Q E s := by
  obtain ⟨⟨cls, dd, data, sl⟩, ho, hc, n, hd⟩ := id hl
  obtain ⟨⟨cls2, dd2, data2, sl2⟩, ho2, hc2, n2, hd2⟩ := id hb
  simp only at hc hd hc2 hd2
  subst hc hd hc2 hd2
  have ta : s.TypeIs (.ref l) "list" := ⟨_, ho, rfl⟩
  have tb : s.TypeIs (.ref b) "list" := ⟨_, ho2, rfl⟩
  exact wpAny_richCompare_same_room (op := .Eq) ta tb F.slot_list_eq (call_meetsIn F.slot_list_eq ta F.entry_list_eq (F.args_list_eq_2 _ _) (list_eq_sizes l b items items2 n n2 dd dd2 sl sl2 hsz)
    ⟨ho, ho2, show Value.bool false ≠ Value.notImplemented ∧ Q (.bool false) s from ⟨(fun x => nomatch x), h⟩⟩) hu
end
end PySem.SeqAt
namespace Co
open PySem PySem.Spec PyProof.Rows L2
def rInT (K : PySem.W.Frag) (neg : Bool) : R2 := fun x y H Q => ∃ d ds, Dp K H x d ∧ Dp K H y (.tuple ds) ∧ SeqAt.shaped d = true ∧ SeqAt.shaped (.tuple ds) = true ∧ Q (.bl (if neg then !(ds.any fun z => PyData.eqv z d) else ds.any fun z => PyData.eqv z d)) H
theorem or_inT {X : Cx} {neg : Bool} (hu : X.A.units + 65 < cLine) : OpR X (compareOp (if neg then .NotIn else .In)) (rInT X.K neg) := by
  intro pins s σ H x y v u Q I rx ry h
  obtain ⟨d, ds, hd, he, sd, se, q⟩ := h
  obtain ⟨as, r1⟩ := Dp.reads I d x v hd rx
  obtain ⟨bs, r2⟩ := Dp.reads I (.tuple ds) y u he ry
  cases neg with
  | false => exact SeqAt.in_tuple_reads r2 r1 (SeqAt.canLay_of_shaped se) (SeqAt.canLay_of_shaped sd) (room_in_shaped sd hu) ⟨.bl _, H, I, rfl, q⟩
  | true => exact SeqAt.notIn_tuple_reads r2 r1 (SeqAt.canLay_of_shaped se) (SeqAt.canLay_of_shaped sd) (room_in_shaped sd hu) ⟨.bl _, H, I, rfl, q⟩
def inTF (neg : Bool) (x y : D) (s : S) : R D := match pyT s x, pyT s y with
  | some p, some (.tuple qs) => if SeqAt.shaped p = true ∧ SeqAt.shaped (.tuple qs) = true then .ok (.bl (if neg then !(qs.any fun q => PyData.eqv q p) else qs.any fun q => PyData.eqv q p)) s else .bad
  | _, _ => .bad
theorem op2_inT {K : Frag} {neg : Bool} : Op2 K (rInT K neg) (inTF neg) := by
  intro W g s H σ x y v w Q R rx ry h
  unfold inTF at h
  split at h
  · rename_i p qs hp hq
    by_cases c : SeqAt.shaped p = true ∧ SeqAt.shaped (.tuple qs) = true
    · rw [if_pos c] at h
      exact ⟨p, qs, dpT_of R rx hp (SeqAt.canLay_of_shaped c.1), dpT_of R ry hq (SeqAt.canLay_of_shaped c.2), c.1, c.2, post_ok (d := .bl _) R rfl h⟩
    · rw [if_neg c] at h; exact h.elim
  · exact h.elim
def rEqE (K : PySem.W.Frag) : R2 := fun x y H Q => ∃ a b xs, x = .ref a ∧ y = .ref b ∧ SqL K H a xs ∧ SqL K H b [] ∧ Q (.bl xs.isEmpty) H
theorem or_eqE {X : Cx} (hu : X.A.units + 65 < cLine) : OpR X (compareOp .Eq) (rEqE X.K) := by
  intro pins s σ H x y v u Q I rx ry h
  obtain ⟨a, b, xs, e1, e2, ha, hb, q⟩ := h
  subst e1; subst e2
  cases (show v = Value.ref a from rx)
  cases (show u = Value.ref b from ry)
  obtain ⟨us, r1, p1, _⟩ := I.list ha
  obtain ⟨ws, r2, p2, _⟩ := I.list hb
  have l1 := r1.length
  have l2 := r2.length
  have e2 : ws.toArray.size = 0 := by rw [List.size_toArray, ← l2]; rfl
  cases xs with
  | nil =>
    have e1 : us.toArray.size = 0 := by rw [List.size_toArray, ← l1]; rfl
    refine SeqAt.rcP_lists (e := fun _ => true) p1.isList p2.isList (by rw [e1, e2]) (by omega) (fun j h1 h2 => by rw [e1] at h1; omega) _ _ ?_
    rw [e1]
    exact ⟨.bl true, H, I, rfl, q⟩
  | cons y xs =>
    have e1 : us.toArray.size = xs.length + 1 := by rw [List.size_toArray, ← l1]; rfl
    exact SeqAt.rcP_sizes p1.isList p2.isList (by rw [e1, e2]; omega) (by omega) _ _ ⟨.bl false, H, I, rfl, q⟩
def eqEF (x y : D) (s : S) : R D := match lstOf x s, lstOf y s with
  | some xs, some [] => .ok (.bl xs.isEmpty) s
  | _, _ => .bad
theorem op2_eqE {K : Frag} : Op2 K (rEqE K) eqEF := by
  intro W g s H σ x y v w Q R rx ry h
  unfold eqEF at h
  split at h
  · rename_i xs e1 e2
    obtain ⟨p, vs, rfl, h3, h4⟩ := lst_ok R rx e1
    obtain ⟨p2, us, rfl, g3, g4⟩ := lst_ok R ry e2
    have eu : us = [] := by
      have := g4.length
      cases us with
      | nil => rfl
      | cons _ _ => cases this
    subst eu
    have ev : vs.isEmpty = xs.isEmpty := by
      have := h4.length
      cases xs <;> cases vs <;> first | rfl | cases this
    refine ⟨p, p2, vs, rfl, rfl, h3, g3, ?_⟩
    rw [ev]
    exact post_ok (d := .bl _) R rfl h
  · exact h.elim
end Co
namespace Co
open PySem PySem.Spec PyProof.Rows L2
/-! ### any, all of a generator expression: the meaning -/
open Classical in
noncomputable def gnL (b : Bool) (t : Tg) (gd : Option (Nat × Ob)) (own : List Nat) (elt : ME D) (env : Env) : List D → S → R D
  | [], s => if GdOk gd s then .ok (.bl (!b)) s else .bad
  | d :: ds, s => if GdOk gd s then (match asg t d s (wipeE env own) with
    | none => .bad
    | some env1 => bd (nox (elt env1 s)) fun y s1 => match y with
      | .bl k => if k = b then .ok (.bl b) s1 else gnL b t gd own elt env ds s1
      | _ => .bad) else .bad
noncomputable def gnM (b : Bool) (t : Tg) (it : ME Itm) (own : List Nat) (elt : ME D) : ME D := fun env s => bd (it env s) fun im s1 => gnL b t im.2 own elt env im.1 s1
section
variable {K : Frag} {g : Gh} {s : S} {H H2 : Hp} {t : Tb} {gpos : Pos}
theorem stp_tab (hP : TabL H t) (nz : ¬ g.z t.P) (np : ¬ g.pr t.P) (T : TabTo t.P gpos H H2) : Stp g H g H2 := by
  obtain ⟨ps, e, _⟩ := hP
  exact ⟨⟨fun _ _ e => e, fun q h => ⟨h, T.2 q fun z => nz (z ▸ h)⟩, fun q xs eq => (T.2 q fun z => by rw [z, e] at eq; cases eq).trans eq, fun q o u _ eq => (T.2 q fun z => by rw [z, e] at eq; cases eq).trans eq⟩,
    fun q o u eq => (T.2 q fun z => by rw [z, e] at eq; cases eq).trans eq, fun q h => ⟨h, T.2 q fun z => np (z ▸ h)⟩⟩
theorem Rel.tab (R : Rel K g s H) (ht : t ∈ tabsK K) (nd : ((tabsK K).map (·.P)).Nodup) (hl : ∀ pos ∈ t.lm, (pos.line, pos.col) ≠ (gpos.line, gpos.col)) (T : TabTo t.P gpos H H2) : Rel K g s H2 := by
  obtain ⟨hP, nz, np⟩ := R.tt t ht
  have st := stp_tab hP nz np T
  obtain ⟨ps, e, ok, l⟩ := id hP
  have ext : ∀ {c' : Addr} {q : Str}, H c' = some (LamX.CodeO c' q) → H2 c' = some (LamX.CodeO c' q) := fun {c' q} e2 => (T.2 c' fun z => by rw [z, e] at e2; exact LamX.codeO_ne ps (Option.some.inj e2).symm).trans e2
  refine ⟨R.dom, fun a ob eo => ?_, R.inj, fun q h => by rw [(st.z q h).2]; exact R.zz q h, fun q h => ⟨by rw [(st.pr q h).2]; exact (R.pp q h).1, (R.pp q h).2⟩, fun q hq => ⟨?_, (R.tt q hq).2⟩⟩
  · obtain ⟨q, h1, h2, h3⟩ := R.obj a ob eo
    exact ⟨q, h1, h2, h3.mono st.toStp0 (T.2 q fun z => RO.notFx (by rw [z]; exact e) (.inl ⟨_, rfl⟩) h3)⟩
  · by_cases z : q.P = t.P
    · have eq : q = t := by
        obtain ⟨i, hi⟩ := List.getElem?_of_mem hq
        obtain ⟨j, hj⟩ := List.getElem?_of_mem ht
        have hi' : ((tabsK K).map (·.P))[i]? = some t.P := by rw [List.getElem?_map, hi, ← z]; rfl
        have hj' : ((tabsK K).map (·.P))[j]? = some t.P := by rw [List.getElem?_map, hj]; rfl
        obtain ⟨li, ei⟩ := List.getElem?_eq_some_iff.mp hi'
        obtain ⟨lj, ej⟩ := List.getElem?_eq_some_iff.mp hj'
        have ij := (List.getElem_inj nd).mp (ei.trans ej.symm)
        subst ij
        rw [hi] at hj
        exact Option.some.inj hj
      subst eq
      obtain ⟨⟨ps1, ps2, a1, a2, a3, a4⟩, a5⟩ := T
      rw [e] at a1; cases a1
      refine ⟨ps2, a2, a3, fun pos hp cv hc => ?_⟩
      rw [a4 pos (hl pos hp)] at hc
      obtain ⟨c', e1, e2⟩ := l pos hp cv hc
      exact ⟨c', e1, ext e2⟩
    · obtain ⟨ps', e', t', l'⟩ := (R.tt q hq).1
      refine ⟨ps', (T.2 _ z).trans e', t', fun pos hp cv hc => ?_⟩
      obtain ⟨c', e1, e2⟩ := l' pos hp cv hc
      exact ⟨c', e1, ext e2⟩
end
section
variable {X : Cx} {W : WX} {tg iter elt : Expr} {scope : Scope} {own : List (Str × Nat)} {t : Tg} {it : ME Itm} {em : ME D}
theorem gn_reads {b : Bool} {tb : Tb} {gpos : Pos} (hT : tb ∈ tabsK X.K) (nd : ((tabsK X.K).map (·.P)).Nodup) (hlm : ∀ pos ∈ tb.lm, (pos.line, pos.col) ≠ (gpos.line, gpos.col)) (hsl : ∀ i ∈ slots t, i ∈ own.map (·.2)) (σ : L2.St) (H : Hp) (Q : VK) (h : TE' X.K W (gnM b t it (own.map (·.2)) em) σ H Q) :
    tGn b (TI' X.K W it) (gtOf X.K t) (TE' X.K W0 em) (own.map (·.2)) tb.P gpos σ H Q := by
  refine (TX.bind (rel := fun g H im J => ItOk X.K g H J im) h).imp fun J H1 ⟨g0, im, s0, env, R1, E1, hit, p1⟩ => ?_
  obtain ⟨hP, nz, np⟩ := R1.tt _ hT
  refine ⟨hP.g, fun H0 hT2 => ?_⟩
  have st1 := stp_tab hP nz np hT2
  have R0 := R1.tab hT nd hlm hT2
  have E0 := E1.mono st1.toStp0
  refine ⟨fun i m' H => m' = im.1.length - i ∧ i ≤ im.1.length ∧ ∃ g s, Stp g0 H1 g H ∧ Rel X.K g s H ∧ Post X.K W g H σ (RD X.K) (gnL b t im.2 (own.map (·.2)) em env (im.1.drop i) s) Q,
    ⟨im.1.length, by simp, Nat.zero_le _, g0, s0, st1, R0, Post.later st1 p1⟩, fun i m' H h => ?_⟩
  obtain ⟨rfl, hi, g, s, st, R, p⟩ := h
  by_cases hlt : i < im.1.length
  · have hd : im.1.drop i = im.1[i] :: im.1.drop (i + 1) := List.drop_eq_getElem_cons hlt
    rw [hd] at p
    unfold gnL at p
    by_cases hgd : GdOk im.2 s
    · rw [if_pos hgd] at p
      obtain ⟨_, hit'⟩ := hit g H s st R hgd
      obtain ⟨go, yld⟩ := hit' i im.1[i] (List.getElem?_eq_getElem hlt)
      refine .inr ⟨go, fun H' => i + 1 ≤ im.1.length ∧ ∃ g s, Stp g0 H1 g H' ∧ Rel X.K g s H' ∧ Post X.K W g H' σ (RD X.K) (gnL b t im.2 (own.map (·.2)) em env (im.1.drop (i + 1)) s) Q, fun H' h => ⟨im.1.length - (i + 1), by omega, rfl, h⟩, fun x H2 y => ?_⟩
      obtain ⟨g2, st2, R2, r2⟩ := yld x H2 y
      cases ea : asg t im.1[i] s (wipeE env (own.map (·.2))) with
      | none => simp only [ea] at p; exact p.elim
      | some env1 =>
        simp only [ea] at p
        have Ew : RE X.K g2 H2 (wipeE env (own.map (·.2))) (wipe σ (own.map (·.2))) := ((E1.mono st.toStp0).mono st2.toStp0).wipe _
        refine tg_ok R2 Ew r2 ea fun σ1 E2 b1 => ⟨fun j v ej => ?_, b1.len, ?_⟩
        · have hj := (wipe_some ej).2
          rw [b1.same j fun z => hj (hsl j z)]
          exact ej
        · have p2 := Post.later st2 p
          have pe : Post X.K W0 g2 H2 σ1 (RD X.K) (em env1 s) _ := Post.nox_of (σ' := σ1) (Post.bind (rel := RD X.K) p2)
          refine TX.mk R2 E2 (pe.imp fun yv H4 ⟨g4, y', s4, st4, R4, ry, en, p4⟩ => ?_)
          cases y' with
          | bl k =>
            obtain rfl : yv = .bl k := ry
            refine ⟨k, rfl, ?_⟩
            by_cases hk : k = b
            · subst hk
              rw [if_pos rfl]
              simp only [if_true] at p4
              exact p4 g4 H4 (.bl k) (.refl _ _) R4 rfl
            · rw [if_neg hk]
              simp only [if_neg hk] at p4
              exact ⟨hlt, g4, s4, (st.trans st2).trans st4, R4, p4⟩
          | _ => exact p4.elim
    · rw [if_neg hgd] at p; exact p.elim
  · have ei : i = im.1.length := by omega
    have hd : im.1.drop i = [] := by rw [ei]; exact List.drop_length
    rw [hd] at p
    unfold gnL at p
    by_cases hgd : GdOk im.2 s
    · rw [if_pos hgd] at p
      obtain ⟨hst, _⟩ := hit g H s st R hgd
      exact .inl ⟨by rw [ei]; exact hst, p g H (.bl (!b)) (.refl _ _) R rfl⟩
    · rw [if_neg hgd] at p; exact p.elim
theorem px_gen {b : Bool} {tb : Tb} {gpos pos p : Pos} {k : Nat} (hr : Room k X.A) (hc : X.calm = true) (hN : X.N.Nodup) (hg : Gl X (gnm b)) (hm : X.mg (gnm b) = none) (hT : tb ∈ tabsK X.K) (nd : ((tabsK X.K).map (·.P)).Nodup) (hlm : ∀ pos ∈ tb.lm, (pos.line, pos.col) ≠ (gpos.line, gpos.col)) (TB : GxR.TabB X.base X.mg tb.c tb.P) (hcode : X.env.code = .ref tb.c)
    (ok : BlkOk X.N X.env.scope scope own) (hnc : ∀ y ∈ scope.names, y.2 ≠ .cell) (h0 : scope.names.lookup (".0" : Str) = some NameKind.local) (hco : scope.isCoroutine = false) (hs : ∀ x, genFold iter X.env x = pure x) (hsl : ∀ i ∈ slots t, i ∈ own.map (·.2)) (hi : PIX X W tg iter it)
    (hpg : ∀ s H C code fp pn, PGX (gnX X s H (gnE X scope C code) fp pn) tg t) (hpe : ∀ s H C code fp pn, PX (gnX X s H (gnE X scope C code) fp pn) W0 elt em) :
    PX X W (.Call (.Name (gnm b) p) [.GeneratorExp elt [⟨tg, iter, [], 0⟩] scope gpos] [] pos) (gnM b t it (own.map (·.2)) em) :=
  PE.imp (pe_gen (b := b) (P := tb.P) (wi := TI' X.K W it) (g := gtOf X.K t) (te := TE' X.K W0 em) hr hc hN hg hm TB hcode ok hnc h0 hco hs hi hpg hpe) (gn_reads hT nd hlm hsl)
end
end Co
namespace Co
open PySem PySem.Spec PyProof.Rows L2
/-! ### the core program -/
inductive Op where
  | add | sub | mul | mod | fdiv | pow
inductive Cm where
  | eq | ne | lt | le | gt | ge | is_ | isn | in_ | nin
inductive Bl where
  | len | int | str | tup | lst | dict | sort | max2 | min2 | repr
inductive Mt where
  | app | ext | ins | idx
def Op.py : Op → Operator
  | .add => .Add | .sub => .Sub | .mul => .Mult | .mod => .Mod | .fdiv => .FloorDiv | .pow => .Pow
def Cm.py : Cm → CmpOp
  | .eq => .Eq | .ne => .NotEq | .lt => .Lt | .le => .LtE | .gt => .Gt | .ge => .GtE | .is_ => .Is | .isn => .IsNot | .in_ => .In | .nin => .NotIn
noncomputable def opF : Op → Bool → D → D → S → R D
  | .add, m => addF m
  | .sub, _ => subF
  | .mul, _ => mulF
  | .mod, _ => modF
  | .fdiv, _ => fdivF
  | .pow, _ => powF
def cmF : Cm → D → D → S → R D
  | .eq => eqF false
  | .ne => eqF true
  | .lt => ltF
  | .le => leF
  | .gt => gtF
  | .ge => geF
  | .is_ => isNF false
  | .isn => isNF true
  | .in_ => inF false
  | .nin => inF true
noncomputable def blF : Bl → Bool → List D → S → R D
  | .len, _ => lenF
  | .int, _ => intB
  | .str, _ => strB
  | .tup, c => tupB c
  | .lst, m => lstB m
  | .dict, _ => dicF
  | .sort, m => sortB m
  | .max2, _ => max2F
  | .min2, _ => min2F
  | .repr, _ => reprF
noncomputable def mtF : Mt → D → List D → S → R D
  | .app => appF
  | .ext => extF2
  | .ins => insF
  | .idx => idxF
/-- expressions, tests, rows of arguments, iterables, statements: one type -/
inductive C where
  | var (i : Nat) | int (i : Int) | str (x : Str) | bl (b : Bool) | non | gl (k : Nat)
  | bin (o : Op) (m : Bool) (a b : C) | cmp (o : Cm) (a b : C) | chn (o p : Cm) (a b c : C) | ix (a b : C) | neg (a : C)
  | nil | cons (a as : C) | tup (as : C) | lst (m : Bool) (as : C) | dnew | dnewT
  | vnot (a : C) | vand (a b : C) | vor (a b : C) | v1 (a : C) | ite (t a b : C)
  | tru (a : C) | tcmp (o : Cm) (a b : C) | tnot (t : C) | tand (t u : C) | tor (t u : C) | tand1 (t : C) | tor1 (t : C)
  | abs | sl (m : Bool) (a lo hi : C) | rev (m : Bool) (a : C) | fld (c f : Str) (a : C)
  | call (j : Nat) (as : C) | meth (c n : Str) (j : Nat) (o as : C) | mk (c : Str) (j : Nat) (as : C) | blt (b : Bl) (m : Bool) (as : C)
  | mt (k : Mt) (o as : C) | pop0 (o : C) | lvals (m : Bool) (o : C) | pop (o a : C) | get1 (o a : C) | get2 (o a b : C) | frz (a : C) | lk (i a : C)
  | lc (m : Bool) (t : Tg) (own : List Nat) (it tst e : C) | dc (t : Tg) (own : List Nat) (it tst k v : C) | yes
  | rng1 (a : C) | rng2 (a b : C) | it (a : C) | vals (a : C) | items (a : C) | keys (a : C)
  | nx | ret (a : C) | retN | set (i : Nat) (a : C) | setT (t : Tg) (a : C) | setI (o i v : C) | setF (c f : Str) (o v : C) | ex (a : C) | ifs (t a b : C) | whl (t b : C) | fors (t : Tg) (it b : C) | brk | cnt | skip | seq (a b : C)
  | tchn (o p : Cm) (a b c : C) | dpn | dpc (k v r : C) | dsp (r : C) | dspT (k v : C) | ctup (as : C) | aug (i : Nat) (a : C) | en (a : C)
  | lks (i s : C) | setC (i : Nat) (m : Bool) (t : Tg) (own : List Nat) (it tst e : C) | dzip (a b : C) | und | rais (c : Str) (fs : List Str) (as : C) | tryS (i : Nat) (cx : Str) (cs : List (Str × List Str × Bool)) (q : SX) (b : C) | isi (t : String) (a : C) | dup (o a : C) | maxl (a : C) | deq (n : Bool) (a b : C) | revt (a : C) | inT (n : Bool) (a b : C) | eqE (a b : C) | setDC (i : Nat) (t : Tg) (own : List Nat) (it tst k v : C)
  | gen (b : Bool) (t : Tg) (own : List Nat) (it e : C)
/-- the meanings, by what the piece is taken for -/
structure M where
  x : ME D := fun _ _ => .bad
  t : ME Bool := fun _ _ => .bad
  l : ME (List D) := fun _ _ => .bad
  i : ME Itm := fun _ _ => .bad
  s : MS := fun _ _ => .bad
/-- a list that nobody changes any more -/
def frzF (d : D) (s : S) : R D := match d with
  | .ref a => match s.heap a with
    | some (.lst ds) => .ok (.lv ds) (s.free a)
    | _ => .bad
  | d => .ok d s
def isAbs : C → Bool
  | .abs => true
  | _ => false
noncomputable def ev (F : Nat → List D → S → R D) (G : Nat → D) : C → M
  | .var i => { x := varM i }
  | .int i => { x := litM (.int i) }
  | .str y => { x := litM (.str y) }
  | .bl b => { x := litM (.bl b) }
  | .non => { x := litM .non }
  | .gl k => { x := litM (G k) }
  | .bin o m a b => { x := op2M (opF o m) (ev F G a).x (ev F G b).x }
  | .cmp o a b => { x := op2M (cmF o) (ev F G a).x (ev F G b).x }
  | .chn o p a b c => { x := chainM (cmF o) (cmF p) (ev F G a).x (ev F G b).x (ev F G c).x }
  | .ix a b => { x := op2M ixF (ev F G a).x (ev F G b).x }
  | .neg a => { x := op1M negF (ev F G a).x }
  | .nil => { l := nilM }
  | .cons a as => { l := consM (ev F G a).x (ev F G as).l }
  | .tup as => { x := argM mkT (ev F G as).l }
  | .lst m as => { x := argM (mkL m) (ev F G as).l }
  | .dnew => { x := dnewM true }
  | .dnewT => { x := dnewTM }
  | .tchn o p a b c => { t := boolM (chainM (cmF o) (cmF p) (ev F G a).x (ev F G b).x (ev F G c).x) }
  | .dpn => { l := nilM }
  | .dpc k v r => { l := consM (ev F G k).x (consM (ev F G v).x (ev F G r).l) }
  | .dsp r => { x := argM dspF (ev F G r).l }
  | .dspT k v => { x := argM dspTF (consM (ev F G k).x (consM (ev F G v).x nilM)) }
  | .ctup as => { x := argM (mkC true) (ev F G as).l }
  | .aug i a => { s := augM i (intF CTrue fun i j => .int (i + j)) (ev F G a).x }
  | .en a => { i := enItM2 (ev F G a).x }
  | .vnot a => { x := notV (ev F G a).x }
  | .vand a b => { x := andV (ev F G a).x (ev F G b).x }
  | .vor a b => { x := orV (ev F G a).x (ev F G b).x }
  | .v1 a => { x := (ev F G a).x }
  | .ite t a b => { x := ifM (ev F G t).t (ev F G a).x (ev F G b).x }
  | .tru a => { t := truM (ev F G a).x }
  | .tcmp o a b => { t := boolM (op2M (cmF o) (ev F G a).x (ev F G b).x) }
  | .tnot t => { t := notM (ev F G t).t }
  | .tand t u => { t := andM (ev F G t).t (ev F G u).t }
  | .tor t u => { t := orM (ev F G t).t (ev F G u).t }
  | .tand1 t => { t := (ev F G t).t }
  | .tor1 t => { t := (ev F G t).t }
  | .abs => {}
  | .sl m a lo hi => { x := slM m (ev F G a).x (if isAbs lo then none else some (ev F G lo).x) (if isAbs hi then none else some (ev F G hi).x) }
  | .rev m a => { x := op1M (revF m) (ev F G a).x }
  | .fld c f a => { x := op1M (fldF c f) (ev F G a).x }
  | .call j as => { x := argM (F j) (ev F G as).l }
  | .meth c n j o as => { x := methN c n (F j) (ev F G o).x (ev F G as).l }
  | .mk c j as => { x := mkM c (F j) (ev F G as).l }
  | .blt b m as => { x := argM (blF b m) (ev F G as).l }
  | .mt k o as => { x := mthM isLst (mtF k) (ev F G o).x (ev F G as).l }
  | .pop0 o => { x := mthM isLst pop0F (ev F G o).x nilM }
  | .lvals m o => { x := op1M (lvalF m) (ev F G o).x }
  | .pop o a => { x := popM (ev F G o).x (ev F G a).x }
  | .get1 o a => { x := get1M (ev F G o).x (ev F G a).x }
  | .get2 o a b => { x := get2M (ev F G o).x (ev F G a).x (ev F G b).x }
  | .frz a => { x := op1M frzF (ev F G a).x }
  | .lk i a => { x := lockM (ev F G i).x (ev F G a).x }
  | .lc m t own it tst e => { x := lcM m t (ev F G it).i own (ev F G tst).t (ev F G e).x }
  | .dc t own it tst k v => { x := dcM true t (ev F G it).i own (ev F G tst).t (ev F G k).x (ev F G v).x }
  | .yes => { t := yesM }
  | .rng1 a => { i := rng1M (ev F G a).x }
  | .rng2 a b => { i := rng2M (ev F G a).x (ev F G b).x }
  | .it a => { i := anyItM (ev F G a).x }
  | .vals a => { i := valItM (ev F G a).x }
  | .items a => { i := iteItM (ev F G a).x }
  | .keys a => { i := keyItM (ev F G a).x }
  | .nx => { s := nxM }
  | .ret a => { s := retM (ev F G a).x }
  | .retN => { s := flM (.rt .non) }
  | .set i a => { s := setM i (ev F G a).x }
  | .setT t a => { s := Co.setT t (ev F G a).x }
  | .setI o i v => { s := Co.setI (ev F G o).x (ev F G i).x (ev F G v).x }
  | .setF c f o v => { s := Co.setF c f (ev F G o).x (ev F G v).x }
  | .ex a => { s := exprM (ev F G a).x }
  | .ifs t a b => { s := ifS (ev F G t).t (ev F G a).s (ev F G b).s }
  | .whl t b => { s := whileM (ev F G t).t (ev F G b).s }
  | .fors t it b => { s := forM t (ev F G it).i (ev F G b).s }
  | .brk => { s := flM .bk }
  | .cnt => { s := flM .ct }
  | .skip => { s := nxM }
  | .seq a b => { s := seqM (ev F G a).s (ev F G b).s }
  | .lks i s => { s := lockS (ev F G i).x (ev F G s).s }
  | .dzip a b => { x := argM dzipF (consM (ev F G a).x (consM (ev F G b).x nilM)) }
  | .und => { s := fun _ _ => .bad }
  | .rais c fs as => { s := raisM c fs (ev F G as).l }
  | .tryS _ _ cs q b => { s := tryM (ev F G b).s cs q }
  | .isi t a => { x := op1M (isiF t) (ev F G a).x }
  | .dup o a => { x := mthM isDK updF (ev F G o).x (consM (ev F G a).x nilM) }
  | .maxl a => { x := argM maxlF (consM (ev F G a).x nilM) }
  | .deq n a b => { x := op2M (deqF n) (ev F G a).x (ev F G b).x }
  | .revt a => { x := op1M revTF (ev F G a).x }
  | .inT n a b => { x := op2M (inTF n) (ev F G a).x (ev F G b).x, t := boolM (op2M (inTF n) (ev F G a).x (ev F G b).x) }
  | .eqE a b => { x := op2M eqEF (ev F G a).x (ev F G b).x, t := boolM (op2M eqEF (ev F G a).x (ev F G b).x) }
  | .setDC i t own it tst k v => { s := setM i (dcM true t (ev F G it).i own (ev F G tst).t (ev F G k).x (ev F G v).x) }
  | .gen b t own it e => { x := gnM b t (ev F G it).i own (ev F G e).x }
  | .setC i m t own it tst e => { s := setM i (lcM m t (ev F G it).i own (ev F G tst).t (ev F G e).x) }
end Co
namespace Co
open PySem PySem.Spec PyProof.Rows L2
/-! ### the check of a core program against the tree -/
inductive FK where
  | fn | meth (c : Str) | init (c : Str)
structure FnI where
  name : Str
  kind : FK
  dep : Nat
  ps : List Str
/-- the exception classes: their fields; which except clause takes which -/
structure Xc where
  excs : List (Str × List Str)
  exms : List (Str × Str × Bool)
structure Pi where
  N : List Str
  fns : List FnI
  gls : List Str
  frees : List Str
  nats : List (Str × Str)
  dep : Nat
  xc : Xc
  gen : Bool := false
  lams : List Pos := []
structure Ck where
  x : Expr → Bool := fun _ => false
  t : Expr → Bool := fun _ => false
  w : Expr → Bool := fun _ => false
  l : List Expr → Bool := fun _ => false
  i : Expr → Expr → Bool := fun _ _ => false
  s : Stmt → Bool := fun _ => false
  b : List Stmt → Bool := fun _ => false
  p : Option Expr → Bool := fun _ => false
  ts : List Expr → Bool := fun _ => false
  r : List (Option Expr) → List Expr → Bool := fun _ _ => false
def tsB (k : Ck) : List Expr → Bool
  | [] => k.ts []
  | [q] => k.t q
  | _ => false
def optB (a : Bool) (k : Ck) (o : Option Expr) : Bool := if a then o.isNone else match o with
  | some e => k.x e
  | none => false
def visB (sc : Scope) (x : Str) : Bool := match sc.names.lookup x with
  | some .local => true
  | some .cell => true
  | some .free => true
  | _ => false
def locB (sc : Scope) (x : Str) : Bool := match sc.names.lookup x with
  | some .local => true
  | some .cell => true
  | _ => false
def isLocal (sc : Scope) (x : Str) : Bool := sc.names.lookup x == some .local
def glB (sc : Scope) (x : Str) : Bool := sc.names.lookup x == some .globalImplicit
def fnb (bs : Option Scope) (x : Str) : Bool := match bs with
  | none => true
  | some s => s.names.lookup x == some .cell
def dbg (x : Str) : Bool := x == ("__debug__" : Str)
def okName (x : Str) : Bool := !dbg x && !(x == ("__classdict__" : Str))
def notStar : Expr → Bool
  | .Starred _ _ => false
  | _ => true
def notSlice : Expr → Bool
  | .Slice _ _ _ _ => false
  | _ => true
def notSet : Expr → Bool
  | .Set _ _ _ => false
  | _ => true
def notTup : Expr → Bool
  | .Tuple _ _ _ => false
  | _ => true
def notComp : Expr → Bool
  | .ListComp _ _ _ _ => false
  | .SetComp _ _ _ _ => false
  | .DictComp _ _ _ _ _ => false
  | _ => true
/-- no call of a bare name: super().x is read apart -/
def plainBase : Expr → Bool
  | .Call (.Name _ _) [] [] _ => false
  | _ => true
/-- expressions whose truth is asked of their value -/
def valTest : Expr → Bool
  | .Name _ _ => true
  | .Attribute _ _ _ => true
  | .Call _ _ _ _ => true
  | .Subscript _ _ _ => true
  | _ => false
def relabelS (scope sc : Scope) : Scope :=
  { scope with names := scope.names.map fun (n, k) => if (k == .free && sc.kind == .function && sc.names.lookup n == some .cell) then (n, .cell) else (n, k) }
def ownOf (N : List Str) (own : List Nat) : List (Str × Nat) := own.map fun i => (((N[i]?).getD ""), i)
def blkB (N : List Str) (sc scope : Scope) (own : List Nat) : Bool :=
  scope.kind == .function && own.all (fun i => decide (i < N.length)) && scope.names.all (fun y => scope.names.lookup y.1 == some y.2) &&
  scope.names.all (fun y => !(y.2 == .free) || (sc.names.lookup y.1 == some .cell || sc.names.lookup y.1 == some .free)) &&
  scope.names.all (fun y => !(y.2 == .local || y.2 == .cell) || ((ownOf N own).any (fun p => p.1 == y.1) || !(N.any fun z => z == y.1)))
def subB (is own : List Nat) : Bool := is.all fun i => own.any fun j => i == j
def namesB (N : List Str) (sc : Scope) (bs : Option Scope) : List Nat → List Expr → Bool
  | [], [] => true
  | i :: is, .Name x _ :: es => N[i]? == some x && locB sc x && (fnb bs x || isLocal sc x) && namesB N sc bs is es
  | _, _ => false
def tgB (N : List Str) (sc : Scope) (bs : Option Scope) : Tg → Expr → Bool
  | .name i, .Name x _ => N[i]? == some x && locB sc x && (fnb bs x || isLocal sc x)
  | .tup is, .Tuple es _ _ => namesB N sc bs is es
  | _, _ => false
def freeB (P : Pi) (sc : Scope) (x y : Str) : Bool := x == y && glB sc x && P.frees.any (fun z => z == x)
def blName : Bl → Str
  | .len => "len" | .int => "int" | .str => "str" | .tup => "tuple" | .lst => "list" | .dict => "dict" | .sort => "sorted" | .max2 => "max" | .min2 => "min" | .repr => "repr"
def mtName : Mt → Str
  | .app => "append" | .ext => "extend" | .ins => "insert" | .idx => "index"
def natB (P : Pi) (c f : Str) : Bool := P.nats.any fun q => q.1 == c && q.2 == f
def lineB (apos cpos : Pos) : Bool := apos.endLine == cpos.line
def fewB (es : List Expr) : Bool := decide (es.length < 30)
def isFn : FK → Bool
  | .fn => true
  | _ => false
def isMeth (c : Str) : FK → Bool
  | .meth d => c == d
  | _ => false
def isInit (c : Str) : FK → Bool
  | .init d => c == d
  | _ => false
/-- y = [..], on one line, y a local name that the comprehension does not bind -/
def swapB (sc scope : Scope) (y : Str) (py epos : Pos) : Bool :=
  sc.kind == .function && isLocal sc y && py.line == epos.line && !(scope.names.any fun p => p.1 == y && (p.2 == .local || p.2 == .cell))
/-- .. off that -/
def swapFree (sc : Scope) (e : Expr) (y : Str) (py : Pos) : Bool := notComp e || (sc.kind == .function && match e with
  | .ListComp _ _ scope epos => !swapB sc scope y py epos
  | .DictComp _ _ _ scope epos => !swapB sc scope y py epos
  | _ => false)
def cmpB (o : CmpOp) (fa fb : Expr → Bool) (e : Expr) : Bool := match e with
  | .Compare l [p] [r] _ => p == o && notSet r && fa l && fb r
  | _ => false
def notLst : Expr → Bool
  | .List _ _ => false
  | _ => true
def Pi.low (P : Pi) : Pi := { P with dep := P.dep - 1, gen := false }
def chk : C → Pi → Scope → Option Scope → Ck
  | .var i, P, sc, bs => { x := fun e => match e with
      | .Name y _ => P.N[i]? == some y && visB sc y && okName y
      | _ => false }
  | .int i, P, _, _ => { x := fun e => match e with
      | .Constant (.int j) _ _ => decide (i = j)
      | _ => false }
  | .str z, P, _, _ => { x := fun e => match e with
      | .Constant (.str y) _ _ => z == y
      | _ => false }
  | .bl b, P, _, _ => { x := fun e => match e with
      | .Constant (.bool c) _ _ => b == c
      | _ => false }
  | .non, P, _, _ => { x := fun e => match e with
      | .Constant .none _ _ => true
      | _ => false }
  | .gl k, P, sc, _ => { x := fun e => match e with
      | .Name y _ => P.gls[k]? == some y && glB sc y && !dbg y
      | _ => false }
  | .bin o _ a b, P, sc, bs => { x := fun e => match e with
      | .BinOp l p r _ => p == o.py && (chk a P sc bs).x l && (chk b P sc bs).x r
      | _ => false }
  | .cmp o a b, P, sc, bs => { x := fun e => match e with
      | .Compare l [p] [r] _ => p == o.py && notSet r && (chk a P sc bs).x l && (chk b P sc bs).x r
      | _ => false }
  | .chn o p a b c, P, sc, bs => { x := fun e => match e with
      | .Compare l [p1, p2] [r, q] _ => p1 == o.py && p2 == p.py && notSet q && (chk a P sc bs).x l && (chk b P sc bs).x r && (chk c P sc bs).x q
      | _ => false }
  | .tchn o p a b c, P, sc, bs => { t := fun e => match e with
      | .Compare l [p1, p2] [r, q] _ => p1 == o.py && p2 == p.py && notSet q && (chk a P sc bs).x l && (chk b P sc bs).x r && (chk c P sc bs).x q
      | _ => false }
  | .dpn, P, _, _ => { r := fun ks vs => match ks, vs with
      | [], [] => true
      | _, _ => false }
  | .dpc k v r, P, sc, bs => { r := fun ks vs => match ks, vs with
      | some a :: ks, b :: vs => (chk k P sc bs).x a && (chk v P sc bs).x b && (chk r P sc bs).r ks vs
      | _, _ => false }
  | .dsp r, P, sc, bs => { x := fun e => match e with
      | .Dict (k :: ks) vs _ => decide (ks.length < 15) && (chk r P sc bs).r (k :: ks) vs
      | _ => false }
  | .dspT k v, P, sc, bs => { x := fun e => match e with
      | .Dict [some a] [b] _ => (chk k P sc bs).x a && (chk v P sc bs).x b
      | _ => false }
  | .ctup as, P, sc, bs => { x := fun e => match e with
      | .Tuple es _ _ => (chk as P sc bs).l es
      | _ => false }
  | .aug i a, P, sc, bs => { s := fun s => match s with
      | .AugAssign (.Name y _) o e _ => o == .Add && P.N[i]? == some y && locB sc y && (fnb bs y || isLocal sc y) && (chk a P sc bs).x e
      | _ => false }
  | .en a, P, sc, bs => { i := fun tg e => match tg, e with
      | .Tuple _ _ _, .Call (.Name y _) [e] [] _ => freeB P sc y "enumerate" && notStar e && (chk a P sc bs).x e
      | _, _ => false }
  | .ix a b, P, sc, bs => { x := fun e => match e with
      | .Subscript l r _ => notSlice r && (chk a P sc bs).x l && (chk b P sc bs).x r
      | _ => false }
  | .neg a, P, sc, bs => { x := fun e => match e with
      | .UnaryOp .USub r _ => (chk a P sc bs).x r
      | _ => false }
  | .nil, P, _, _ => { l := fun es => match es with
      | [] => true
      | _ => false }
  | .cons a as, P, sc, bs => { l := fun es => match es with
      | e :: es => notStar e && (chk a P sc bs).x e && (chk as P sc bs).l es
      | _ => false }
  | .tup as, P, sc, bs => { x := fun e => match e with
      | .Tuple es _ _ => (chk as P sc bs).l es
      | _ => false }
  | .lst _ as, P, sc, bs => { x := fun e => match e with
      | .List es _ => (chk as P sc bs).l es
      | _ => false }
  | .dnew, P, _, _ => { x := fun e => match e with
      | .Dict [] [] _ => true
      | _ => false }
  | .dnewT, P, _, _ => { x := fun e => match e with
      | .Dict [] [] _ => true
      | _ => false }
  | .vnot a, P, sc, bs => { x := fun e => match e with
      | .UnaryOp .Not r _ => (chk a P sc bs).x r
      | _ => false }
  | .vand a b, P, sc, bs => { x := fun e => match e with
      | .BoolOp .And (l :: r :: es) pos => (chk a P sc bs).x l && (chk b P sc bs).x (.BoolOp .And (r :: es) pos)
      | _ => false }
  | .vor a b, P, sc, bs => { x := fun e => match e with
      | .BoolOp .Or (l :: r :: es) pos => (chk a P sc bs).x l && (chk b P sc bs).x (.BoolOp .Or (r :: es) pos)
      | _ => false }
  | .v1 a, P, sc, bs => { x := fun e => match e with
      | .BoolOp _ [l] _ => (chk a P sc bs).x l
      | _ => false }
  | .ite t a b, P, sc, bs => { x := fun e => match e with
      | .IfExp c l r _ => (chk t P sc bs).t c && (chk a P sc bs).x l && (chk b P sc bs).x r
      | _ => false }
  | .tru a, P, sc, bs => { t := fun e => valTest e && (chk a P sc bs).x e }
  | .tcmp o a b, P, sc, bs => { t := fun e => match e with
      | .Compare l [p] [r] _ => p == o.py && notSet r && (chk a P sc bs).x l && (chk b P sc bs).x r
      | _ => false }
  | .tnot t, P, sc, bs => { t := fun e => match e with
      | .UnaryOp .Not r _ => (chk t P sc bs).t r
      | _ => false }
  | .tand t u, P, sc, bs => let w := fun e => match e with
      | .BoolOp .And (l :: r :: es) pos => (chk t P sc bs).t l && (chk u P sc bs).w (.BoolOp .And (r :: es) pos)
      | _ => false
      { t := w, w := w }
  | .tor t u, P, sc, bs => let w := fun e => match e with
      | .BoolOp .Or (l :: r :: es) pos => (chk t P sc bs).t l && (chk u P sc bs).w (.BoolOp .Or (r :: es) pos)
      | _ => false
      { t := w, w := w }
  | .tand1 t, P, sc, bs => { w := fun e => match e with
      | .BoolOp .And [l] _ => (chk t P sc bs).t l
      | _ => false }
  | .tor1 t, P, sc, bs => { w := fun e => match e with
      | .BoolOp .Or [l] _ => (chk t P sc bs).t l
      | _ => false }
  | .abs, P, _, _ => { p := fun e => match e with
      | none => true
      | _ => false }
  | .sl _ a lo hi, P, sc, bs => { x := fun e => match e with
      | .Subscript l (.Slice lo' hi' none _) _ => (chk a P sc bs).x l && optB (isAbs lo) (chk lo P sc bs) lo' && optB (isAbs hi) (chk hi P sc bs) hi'
      | _ => false }
  | .rev _ a, P, sc, bs => { x := fun e => match e with
      | .Subscript l (.Slice none none (some (.UnaryOp .USub (.Constant (.int i) _ _) _)) _) _ => decide (i = 1) && (chk a P sc bs).x l
      | _ => false }
  | .fld c f a, P, sc, bs => { x := fun e => match e with
      | .Attribute o g _ => f == g && natB P c f && plainBase o && (chk a P sc bs).x o
      | _ => false }
  | .call j as, P, sc, bs => { x := fun e => match e with
      | .Call (.Name y _) es [] _ => (match P.fns[j]? with
          | some i => isFn i.kind && i.name == y && decide (i.dep < P.dep)
          | none => false) && glB sc y && !dbg y && (chk as P sc bs).l es
      | _ => false }
  | .meth c n j o as, P, sc, bs => { x := fun e => match e with
      | .Call (.Attribute r m apos) es [] pos => (match P.fns[j]? with
          | some i => isMeth c i.kind && i.name == m && n == m && decide (i.dep < P.dep)
          | none => false) && lineB apos pos && fewB es && plainBase r && (chk o P sc bs).x r && (chk as P sc bs).l es
      | _ => false }
  | .mk c j as, P, sc, bs => { x := fun e => match e with
      | .Call (.Name y _) es [] _ => (match P.fns[j]? with
          | some i => isInit c i.kind && decide (i.dep < P.dep)
          | none => false) && c == y && glB sc y && !dbg y && (chk as P sc bs).l es
      | _ => false }
  | .blt b _ as, P, sc, bs => { x := fun e => match e with
      | .Call (.Name y _) (e :: es) [] _ => freeB P sc y (blName b) && (chk as P sc bs).l (e :: es)
      | _ => false }
  | .mt k o as, P, sc, bs => { x := fun e => match e with
      | .Call (.Attribute r m apos) (e :: es) [] pos => m == mtName k && lineB apos pos && fewB (e :: es) && plainBase r && (chk o P sc bs).x r && (chk as P sc bs).l (e :: es)
      | _ => false }
  | .pop0 o, P, sc, bs => { x := fun e => match e with
      | .Call (.Attribute r m apos) [] [] pos => m == ("pop" : Str) && lineB apos pos && plainBase r && (chk o P sc bs).x r
      | _ => false }
  | .lvals _ o, P, sc, bs => { x := fun e => match e with
      | .Call (.Name y _) [.Call (.Attribute r m apos) [] [] mpos] [] _ => freeB P sc y "list" && m == ("values" : Str) && lineB apos mpos && plainBase r && (chk o P sc bs).x r
      | _ => false }
  | .pop o a, P, sc, bs => { x := fun e => match e with
      | .Call (.Attribute r m apos) [e] [] pos => m == ("pop" : Str) && lineB apos pos && plainBase r && notStar e && (chk o P sc bs).x r && (chk a P sc bs).x e
      | _ => false }
  | .get1 o a, P, sc, bs => { x := fun e => match e with
      | .Call (.Attribute r m apos) [e] [] pos => m == ("get" : Str) && lineB apos pos && plainBase r && notStar e && (chk o P sc bs).x r && (chk a P sc bs).x e
      | _ => false }
  | .get2 o a b, P, sc, bs => { x := fun e => match e with
      | .Call (.Attribute r m apos) [e, f] [] pos => m == ("get" : Str) && lineB apos pos && plainBase r && notStar e && notStar f && (chk o P sc bs).x r && (chk a P sc bs).x e && (chk b P sc bs).x f
      | _ => false }
  | .frz a, P, sc, bs => { x := fun e => (chk a P sc bs).x e }
  | .lk _ a, P, sc, bs => { x := fun e => (chk a P sc bs).x e }
  | .lc _ t own it tst el, P, sc, bs => { x := fun e => match e with
      | .ListComp elt [⟨tg, iter, ifs, n⟩] scope _ => decide (n = 0) && blkB P.N sc scope own && subB (slots t) own && notSet iter && (chk it P sc bs).i tg iter &&
          tgB P.N (relabelS scope sc) (some scope) t tg && tsB (chk tst P (relabelS scope sc) (some scope)) ifs && (chk el P (relabelS scope sc) (some scope)).x elt
      | _ => false }
  | .dc t own it tst k v, P, sc, bs => { x := fun e => match e with
      | .DictComp kx vx [⟨tg, iter, ifs, n⟩] scope _ => decide (n = 0) && blkB P.N sc scope own && subB (slots t) own && notSet iter && (chk it P sc bs).i tg iter &&
          tgB P.N (relabelS scope sc) (some scope) t tg && tsB (chk tst P (relabelS scope sc) (some scope)) ifs && (chk k P (relabelS scope sc) (some scope)).x kx && (chk v P (relabelS scope sc) (some scope)).x vx
      | _ => false }
  | .yes, P, _, _ => { ts := fun es => match es with
      | [] => true
      | _ => false }
  | .rng1 a, P, sc, bs => { i := fun _ e => match e with
      | .Call (.Name y _) [e] [] _ => freeB P sc y "range" && notStar e && (chk a P sc bs).x e
      | _ => false }
  | .rng2 a b, P, sc, bs => { i := fun _ e => match e with
      | .Call (.Name y _) [e, f] [] _ => freeB P sc y "range" && notStar e && notStar f && (chk a P sc bs).x e && (chk b P sc bs).x f
      | _ => false }
  | .it a, P, sc, bs => { i := fun _ e => (chk a P sc bs).x e }
  | .vals a, P, sc, bs => { i := fun _ e => match e with
      | .Call (.Attribute r m apos) [] [] pos => m == ("values" : Str) && lineB apos pos && plainBase r && (chk a P sc bs).x r
      | _ => false }
  | .items a, P, sc, bs => { i := fun tg e => match tg, e with
      | .Tuple _ _ _, .Call (.Attribute r m apos) [] [] pos => m == ("items" : Str) && lineB apos pos && plainBase r && (chk a P sc bs).x r
      | _, _ => false }
  | .keys a, P, sc, bs => { i := fun _ e => match e with
      | .Call (.Attribute r m apos) [] [] pos => m == ("keys" : Str) && lineB apos pos && plainBase r && (chk a P sc bs).x r
      | _ => false }
  | .nx, P, _, _ => { s := fun s => match s with
      | .Pass _ => true
      | .Expr (.Constant (.str _) _ _) _ => true
      | _ => false }
  | .ret a, P, sc, bs => { s := fun s => match s with
      | .Return (some e) _ => (chk a P sc bs).x e
      | _ => false }
  | .retN, P, _, _ => { s := fun s => match s with
      | .Return none _ => true
      | _ => false }
  | .set i a, P, sc, bs => { s := fun s => match s with
      | .Assign [.Name y py] e _ => P.N[i]? == some y && locB sc y && (fnb bs y || isLocal sc y) && swapFree sc e y py && (chk a P sc bs).x e
      | _ => false }
  | .setT t a, P, sc, bs => { s := fun s => match s with
      | .Assign [.Tuple es k p] e _ => notTup e && tgB P.N sc bs t (.Tuple es k p) && (chk a P sc bs).x e
      | _ => false }
  | .setI o i v, P, sc, bs => { s := fun s => match s with
      | .Assign [.Subscript r q _] e _ => notSlice q && (chk o P sc bs).x r && (chk i P sc bs).x q && (chk v P sc bs).x e
      | _ => false }
  | .setF c f o v, P, sc, bs => { s := fun s => match s with
      | .Assign [.Attribute r g _] e _ => f == g && natB P c f && (chk o P sc bs).x r && (chk v P sc bs).x e
      | _ => false }
  | .ex a, P, sc, bs => { s := fun s => match s with
      | .Expr e _ => notComp e && (chk a P sc bs).x e
      | _ => false }
  | .ifs t a b, P, sc, bs => { s := fun s => match s with
      | .If e p q _ => (chk t P sc bs).t e && (chk a P sc bs).b p && (chk b P sc bs).b q
      | _ => false }
  | .whl t b, P, sc, bs => { s := fun s => match s with
      | .While e p [] _ => bs.isNone && (chk t P sc bs).t e && (chk b P sc bs).b p
      | _ => false }
  | .fors t it b, P, sc, bs => { s := fun s => match s with
      | .For tg iter body [] _ => bs.isNone && notSet iter && (chk it P sc bs).i tg iter && tgB P.N sc bs t tg && (chk b P sc bs).b body
      | _ => false }
  | .brk, P, _, _ => { s := fun s => match s with
      | .Break _ => true
      | _ => false }
  | .cnt, P, _, _ => { s := fun s => match s with
      | .Continue _ => true
      | _ => false }
  | .skip, P, _, _ => { b := fun s => match s with
      | [] => true
      | _ => false }
  | .seq a b, P, sc, bs => { b := fun s => match s with
      | st :: rest => (chk a P sc bs).s st && (chk b P sc bs).b rest
      | _ => false }
  | .lks _ s, P, sc, bs => { s := fun st => (chk s P sc bs).s st }
  | .dzip a b, P, sc, bs => { x := fun e => match e with
      | .Call (.Name y _) [.Call (.Name z _) [e, f] [] _] [] _ => freeB P sc y "dict" && freeB P sc z "zip" && notStar e && notStar f && (chk a P sc bs).x e && (chk b P sc bs).x f
      | _ => false }
  | .rais c fs as, P, sc, bs => { s := fun s => match s with
      | .Raise (some (.Call (.Name y _) (e :: es) [] _)) none _ => c == y && P.xc.excs.any (fun q => decide (q = (c, fs))) && glB sc y && !dbg y && (chk as P sc bs).l (e :: es)
      | _ => false }
  | .tryS i cx cs q b, P, sc, bs => { s := fun s => match s with
      | .Try body [.ExceptHandler (some (.Name y _)) (some n) [.Return (some e) _] _] [] [] _ => bs.isNone && P.N[i]? == some n && isLocal sc n && okName n && y == cx && glB sc y && !dbg y && P.frees.any (fun z => z == ("isinstance" : Str)) &&
          cs.all (fun p => P.xc.excs.any (fun r => decide (r = (p.1, p.2.1))) && P.xc.exms.any (fun r => decide (r = (p.1, cx, p.2.2)))) && P.xc.exms.any (fun r => r.2.1 == cx) && sxB n (fun x => glB sc x) q e && (chk b P sc bs).b body
      | _ => false }
  | .isi t a, P, sc, bs => { x := fun e => match e with
      | .Call (.Name y _) [e, .Name z _] [] _ => freeB P sc y "isinstance" && freeB P sc z (Str.ofString t) && (t == "list" || t == "int" || t == "str" || t == "tuple" || t == "dict") && notStar e && (chk a P sc bs).x e
      | _ => false }
  | .dup o a, P, sc, bs => { x := fun e => match e with
      | .Call (.Attribute r m apos) [e] [] pos => m == ("update" : Str) && lineB apos pos && plainBase r && notStar e && (chk o P sc bs).x r && (chk a P sc bs).x e
      | _ => false }
  | .revt a, P, sc, bs => { x := fun e => match e with
      | .Subscript l (.Slice none none (some (.UnaryOp .USub (.Constant (.int i) _ _) _)) _) _ => decide (i = 1) && (chk a P sc bs).x l
      | _ => false }
  | .inT n a b, P, sc, bs => { x := cmpB (if n then .NotIn else .In) (chk a P sc bs).x (chk b P sc bs).x, t := cmpB (if n then .NotIn else .In) (chk a P sc bs).x (chk b P sc bs).x }
  | .eqE a b, P, sc, bs => { x := cmpB .Eq (chk a P sc bs).x (chk b P sc bs).x, t := cmpB .Eq (chk a P sc bs).x (chk b P sc bs).x }
  | .deq n a b, P, sc, bs => { x := fun e => match e with
      | .Compare l [p] [r] _ => p == (if n then .NotEq else .Eq) && notSet r && (chk a P sc bs).x l && (chk b P sc bs).x r
      | _ => false }
  | .maxl a, P, sc, bs => { x := fun e => match e with
      | .Call (.Name y _) [e] [] _ => freeB P sc y "max" && notStar e && (chk a P sc bs).x e
      | _ => false }
  | .und, P, _, _ => { s := fun s => match s with
      | .Raise _ _ _ => true
      | _ => false }
  | .setDC i t own it tst k v, P, sc, bs => { s := fun s => match s with
      | .Assign [.Name y py] (.DictComp kx vx [⟨tg, iter, ifs, n⟩] scope epos) _ => bs.isNone && P.N[i]? == some y && swapB sc scope y py epos && decide (n = 0) && blkB P.N sc scope own && subB (slots t) own && notSet iter && (chk it P sc bs).i tg iter &&
          tgB P.N (relabelS scope sc) (some scope) t tg && tsB (chk tst P (relabelS scope sc) (some scope)) ifs && (chk k P (relabelS scope sc) (some scope)).x kx && (chk v P (relabelS scope sc) (some scope)).x vx
      | _ => false }
  | .gen b t own it el, P, sc, bs => { x := fun e => match e with
      | .Call (.Name y _) [.GeneratorExp elt [⟨tg, iter, ifs, n⟩] scope gpos] [] _ => (P.gen && P.lams.all fun p => decide ((p.line, p.col) ≠ (gpos.line, gpos.col))) && (y == gnm b && freeB P sc y (gnm b)) && decide (0 < P.dep) && (ifs.isEmpty && decide (n = 0)) && (blkB P.N sc scope own && subB (slots t) own) &&
          (notSet iter && notLst iter && !scope.isCoroutine && scope.names.all (fun y => !(y.2 == .cell)) && scope.names.lookup (".0" : Str) == some NameKind.local) && ((chk it P sc bs).i tg iter && tgB P.N scope (some scope) t tg) && (chk el P.low scope (some scope)).x elt
      | _ => false }
  | .setC i _ t own it tst el, P, sc, bs => { s := fun s => match s with
      | .Assign [.Name y py] (.ListComp elt [⟨tg, iter, ifs, n⟩] scope epos) _ => bs.isNone && P.N[i]? == some y && swapB sc scope y py epos && decide (n = 0) && blkB P.N sc scope own && subB (slots t) own && notSet iter && (chk it P sc bs).i tg iter &&
          tgB P.N (relabelS scope sc) (some scope) t tg && tsB (chk tst P (relabelS scope sc) (some scope)) ifs && (chk el P (relabelS scope sc) (some scope)).x elt
      | _ => false }
end Co
namespace Co
open PySem PySem.Spec PyProof.Rows L2
/-! ### the check is right -/
theorem and2 {a b : Bool} (h : (a && b) = true) : a = true ∧ b = true := by rw [Bool.and_eq_true] at h; exact h
theorem and3 {a b c : Bool} (h : (a && b && c) = true) : a = true ∧ b = true ∧ c = true := ⟨(and2 (and2 h).1).1, (and2 (and2 h).1).2, (and2 h).2⟩
theorem and4 {a b c d : Bool} (h : (a && b && c && d) = true) : a = true ∧ b = true ∧ c = true ∧ d = true := ⟨(and3 (and2 h).1).1, (and3 (and2 h).1).2.1, (and3 (and2 h).1).2.2, (and2 h).2⟩
theorem and5 {a b c d e : Bool} (h : (a && b && c && d && e) = true) : a = true ∧ b = true ∧ c = true ∧ d = true ∧ e = true := ⟨(and4 (and2 h).1).1, (and4 (and2 h).1).2.1, (and4 (and2 h).1).2.2.1, (and4 (and2 h).1).2.2.2, (and2 h).2⟩
theorem and6 {a b c d e f : Bool} (h : (a && b && c && d && e && f) = true) : a = true ∧ b = true ∧ c = true ∧ d = true ∧ e = true ∧ f = true := ⟨(and5 (and2 h).1).1, (and5 (and2 h).1).2.1, (and5 (and2 h).1).2.2.1, (and5 (and2 h).1).2.2.2.1, (and5 (and2 h).1).2.2.2.2, (and2 h).2⟩
theorem and7 {a b c d e f g : Bool} (h : (a && b && c && d && e && f && g) = true) : a = true ∧ b = true ∧ c = true ∧ d = true ∧ e = true ∧ f = true ∧ g = true := ⟨(and6 (and2 h).1).1, (and6 (and2 h).1).2.1, (and6 (and2 h).1).2.2.1, (and6 (and2 h).1).2.2.2.1, (and6 (and2 h).1).2.2.2.2.1, (and6 (and2 h).1).2.2.2.2.2, (and2 h).2⟩
theorem and8 {a b c d e f g i : Bool} (h : (a && b && c && d && e && f && g && i) = true) : a = true ∧ b = true ∧ c = true ∧ d = true ∧ e = true ∧ f = true ∧ g = true ∧ i = true := ⟨(and7 (and2 h).1).1, (and7 (and2 h).1).2.1, (and7 (and2 h).1).2.2.1, (and7 (and2 h).1).2.2.2.1, (and7 (and2 h).1).2.2.2.2.1, (and7 (and2 h).1).2.2.2.2.2.1, (and7 (and2 h).1).2.2.2.2.2.2, (and2 h).2⟩
/-- what is known of a def -/
structure FnFact (P : Program) (w : World) (K : Frag) (mg : Str → Option Value) (base : Heap) (i : FnI) (m : List D → S → R D) : Prop where
  ex : ∃ (f : Addr) (fd : FuncData), FnG P w K mg base (2 * i.dep + 2) f fd i.ps (spF K i.ps.length m) ∧ Binds K fd i.ps [] ∧ PySem.W.keepIn K (.ref f) = true ∧ (match i.kind with
    | .fn => mg i.name = some (.ref f)
    | .meth c => Cls K (He.ga K c) ∧ Meth K (He.ga K c) i.name f
    | .init c => Mk K (He.ga K c) f ∧ mg c = some (.ref (He.ga K c)))
  len : ∀ ds s, ds.length ≠ i.ps.length → m ds s = .bad
structure Facts (P : Pi) (F : Nat → List D → S → R D) (G : Nat → D) (pr : Program) (w : World) (K : Frag) (mg : Str → Option Value) (base : Heap) : Prop where
  fns : ∀ j i, P.fns[j]? = some i → i.dep < P.dep → FnFact pr w K mg base i (F j)
  gls : ∀ k x, P.gls[k]? = some x → ∃ u v, mg x = some u ∧ RelV v u ∧ ∀ g H, RD K g H (G k) v
  frees : ∀ x ∈ P.frees, mg x = none
  nats : ∀ q ∈ P.nats, Cls K (He.ga K q.1) ∧ NoAttr K (He.ga K q.1) q.2
  excs : ∀ q ∈ P.xc.excs, (∃ fI, XcK K mg pr.main.file (He.ga K q.1) fI q.2) ∧ mg q.1 = some (.ref (He.ga K q.1))
  exms : ∀ q ∈ P.xc.exms, PySem.W.exmOne K (.ref (He.ga K q.1)) (.ref (He.ga K q.2.1)) = some q.2.2 ∧ mg q.2.1 = some (.ref (He.ga K q.2.1))
  top : P.xc.excs ≠ [] → (pr.main.scope.names.lookup ("super" : Str)).isSome = false
  tabs : ∀ t ∈ tabsK K, GxR.TabB base mg t.c t.P
  tnd : ((tabsK K).map (·.P)).Nodup
theorem Facts.low {P : Pi} {F : Nat → List D → S → R D} {G : Nat → D} {pr : Program} {w : World} {K : Frag} {mg : Str → Option Value} {base : Heap} (h : Facts P F G pr w K mg base) : Facts P.low F G pr w K mg base :=
  ⟨fun j i e hd => h.fns j i e (Nat.lt_of_lt_of_le hd (Nat.sub_le _ _)), h.gls, h.frees, h.nats, h.excs, h.exms, h.top, h.tabs, h.tnd⟩
structure Ctx (P : Pi) (F : Nat → List D → S → R D) (G : Nat → D) (X : Cx) (W : WX) (sc : Scope) (bs : Option Scope) : Prop where
  N : X.N = P.N
  nd : P.N.Nodup
  sc : X.env.scope = sc
  fn : ∀ x, fnb bs x = true → X.fn x = true
  calm : X.calm = true
  gd : X.A.guards = some []
  room : Room (2 * P.dep + 1) X.A
  stk : bs = none → X.stack = X.env :: X.outer ∧ X.env.frame = some X.env.locals
  pass : bs = none → PassesOwn (model X.prog X.w) X.A X.env X.xe
  tk : Takes X W
  facts : Facts P F G X.prog X.w X.K X.mg X.base
  cd : P.gen = true → ∃ t ∈ tabsK X.K, X.env.code = .ref t.c ∧ t.lm = P.lams ∧ t.q = X.env.qual ++ "<lambda>"
section
variable {P : Pi} {F : Nat → List D → S → R D} {G : Nat → D} {X : Cx} {W : WX} {sc : Scope} {bs : Option Scope}
theorem Ctx.units (h : Ctx P F G X W sc bs) : X.A.units + 65 < cLine := by have := h.room.un; omega
theorem vis_of {sc : Scope} {x : Str} (h : visB sc x = true) : Vis sc x := by
  unfold visB at h
  unfold Vis
  split at h
  · exact .inl (by assumption)
  · exact .inr (.inl (by assumption))
  · exact .inr (.inr (by assumption))
  · cases h
theorem loc_of {sc : Scope} {x : Str} (h : locB sc x = true) : L2.Loc sc x := by
  unfold locB at h
  unfold L2.Loc
  split at h
  · exact .inl (by assumption)
  · exact .inr (by assumption)
  · cases h
theorem Ctx.at (h : Ctx P F G X W sc bs) {i : Nat} {x : Str} (e : (P.N[i]? == some x) = true) : X.N[i]? = some x := by rw [h.N]; exact beq_iff_eq.mp e
theorem Ctx.gl (h : Ctx P F G X W sc bs) {x : Str} (e : glB sc x = true) : Gl X x := by
  show X.env.scope.names.lookup x = _
  rw [h.sc]
  exact beq_iff_eq.mp e
theorem Ctx.loc (h : Ctx P F G X W sc bs) {x : Str} (e : locB sc x = true) : L2.Loc X.env.scope x := by rw [h.sc]; exact loc_of e
theorem Ctx.fnl (h : Ctx P F G X W sc bs) {x : Str} (e : (fnb bs x || isLocal sc x) = true) : X.fn x = true ∨ X.env.scope.names.lookup x = some .local := by
  rw [Bool.or_eq_true] at e
  rcases e with e | e
  · exact .inl (h.fn x e)
  · rw [h.sc]; exact .inr (beq_iff_eq.mp e)
theorem Ctx.free (h : Ctx P F G X W sc bs) {x y : Str} (e : freeB P sc x y = true) : x = y ∧ Gl X x ∧ X.mg x = none := by
  obtain ⟨h1, h2, h3⟩ := and3 e
  obtain ⟨z, hz, e'⟩ := List.any_eq_true.mp h3
  exact ⟨beq_iff_eq.mp h1, h.gl h2, h.facts.frees x (by rw [← beq_iff_eq.mp e']; exact hz)⟩
theorem l_star {P : Pi} {sc : Scope} {bs : Option Scope} : ∀ {es : List Expr} {c : C}, (chk c P sc bs).l es = true → es.all notStar = true
  | [], _, _ => rfl
  | e :: es, c, h => by
    cases c with
    | cons a as =>
      obtain ⟨h1, _, h3⟩ := and3 (show (notStar e && (chk a P sc bs).x e && (chk as P sc bs).l es) = true from h)
      rw [List.all_cons, h1, l_star h3]
      rfl
    | _ => exact absurd h Bool.false_ne_true
theorem star_all {es : List Expr} (h : es.all notStar = true) (env : PySem.Env) : (starEach es env).all (fun x => !x.1) = true := by
  induction es with
  | nil => rfl
  | cons e es ih =>
    rw [List.all_cons] at h
    rw [star_of (and2 h).1, List.all_cons, ih (and2 h).2]
    rfl
theorem back_all {pos : Pos} {l : List (Bool × Sem Value)} (h : l.all (fun x => !x.1) = true) : (backTo pos l).all (fun x => !x.1) = true := by
  unfold backTo
  rw [List.all_map]
  exact h
theorem back_any {pos : Pos} {l : List (Bool × Sem Value)} (h : l.all (fun x => !x.1) = true) : (backTo pos l).any (·.1) = false := by
  have h' := back_all (pos := pos) h
  rw [List.any_eq_false]
  intro x hx
  have := List.all_eq_true.mp h' x hx
  simpa using this
theorem hpl_of {es : List Expr} (h : es.all notStar = true) (pos : Pos) (env : PySem.Env) : (backTo pos (starEach es env)).any (·.1) = false := back_any (star_all h env)
theorem few_of {es : List Expr} (h : es.all notStar = true) (hf : fewB es = true) (pos : Pos) (env : PySem.Env) : ((backTo pos (starEach es env)).all (fun x => !x.1) && (backToKw pos (keywordEach [] env)).all (fun x => x.1.isSome)
    && decide (es.length + ([] : List Keyword).length + (if ([] : List Keyword).isEmpty then 0 else 1) < 30)) = true := by
  rw [back_all (star_all h env)]
  show (true && true && decide (es.length + 0 + 0 < 30)) = true
  simpa [fewB] using hf
theorem base_of {o : Expr} {f : Str} {env : PySem.Env} (h : plainBase o = true) : attributeBase o f env (eval o env) = eval o env := by
  cases o with
  | Call fn as ks pos =>
    cases fn with
    | Name id p =>
      cases as with
      | nil =>
        cases ks with
        | nil => cases h
        | cons k ks => rfl
      | cons a as => rfl
    | _ => rfl
  | _ => rfl
theorem m1_of {X : Cx} {o e : Expr} {m : Str} {apos cpos : Pos} (h1 : plainBase o = true) (h2 : lineB apos cpos = true) (h3 : notStar e = true) : M1 X o m apos e cpos :=
  ⟨base_of h1, few_of (es := [e]) (by simp [h3]) rfl cpos X.env, h2, by rw [star_of h3]; rfl⟩
theorem m2_of {X : Cx} {o e f : Expr} {m : Str} {apos cpos : Pos} (h1 : plainBase o = true) (h2 : lineB apos cpos = true) (h3 : notStar e = true) (h4 : notStar f = true) : M2 X o m apos e f cpos :=
  ⟨base_of h1, few_of (es := [e, f]) (by simp [h3, h4]) rfl cpos X.env, h2, by rw [star_of h3, star_of h4]; rfl⟩
theorem meth_eval {o : Expr} {m : Str} {apos pos : Pos} {es : List Expr} {env : PySem.Env} (h1 : plainBase o = true) (h2 : lineB apos pos = true) (h3 : es.all notStar = true) (h4 : fewB es = true) :
    eval (.Call (.Attribute o m apos) es [] pos) env = (do
      let ov ← eval o env
      standAt apos.atName
      let (f, first) ← holding [ov] (getMethod ov m (plainOf o env))
      callWith pos f first (backTo pos (starEach es env)) (backToKw pos (keywordEach [] env))) := by
  have e1 : ∀ ov, methodCall o m apos pos env ov (es.length + ([] : List Keyword).length) (backTo pos (starEach es env)) (backToKw pos (keywordEach [] env)) = (do
      let (f, first) ← holding [ov] (getMethod ov m (plainOf o env))
      callWith pos f first (backTo pos (starEach es env)) (backToKw pos (keywordEach [] env))) := fun ov => mcall_line (few_of h3 h4 pos env) h2
  have e2 : eval (.Call (.Attribute o m apos) es [] pos) env = (do
      let ov ← attributeBase o m env (eval o env)
      standAt apos.atName
      methodCall o m apos pos env ov (es.length + ([] : List Keyword).length) (backTo pos (starEach es env)) (backToKw pos (keywordEach [] env))) := by rfl
  rw [e2, base_of h1]
  simp only [e1]
theorem ix_of {b : Expr} (h : notSlice b = true) : PlainIx b := by
  intro o i
  cases b with
  | Slice l u s p => cases h
  | _ => rfl
theorem fold_of {iter : Expr} {env : PySem.Env} (h : notSet iter = true) : ∀ x, foldedSetIterable iter env x = pure x := by
  intro x
  cases iter with
  | Set es k p => cases h
  | _ => rfl
theorem mark_of {op : CmpOp} {b : Expr} (h : notSet b = true) : behindInMarks op b = false := by
  cases b with
  | Set es k p => cases h
  | _ => rfl
theorem truth_of {e : Expr} {env : PySem.Env} (h : valTest e = true) : ∀ whole, isTrue e env whole = (do let v ← whole; standAt e.pos; holding [v] (truthy v)) := by
  intro whole
  cases e with
  | Name id p => rfl
  | Attribute a b c => rfl
  | Call a b c d => rfl
  | Subscript a b c => rfl
  | _ => cases h
end
end Co
namespace Co
open PySem PySem.Spec PyProof.Rows L2
section
variable {X : Cx}
theorem bin_op (o : Op) (m : Bool) : ∃ r, OpR X (binaryOp o.py) r ∧ Op2 X.K r (opF o m) := by
  cases o with
  | add => exact ⟨_, or_add, op2_add⟩
  | sub => exact ⟨_, OpR.ci op_sub, op2_int fun _ _ _ _ => rfl⟩
  | mul => exact ⟨_, op_mul, op2_int fun _ _ _ _ => rfl⟩
  | mod => exact ⟨_, op_mod, op2_int fun _ _ _ _ => rfl⟩
  | fdiv => exact ⟨_, op_fdiv, op2_int fun _ _ _ _ => rfl⟩
  | pow => exact ⟨_, op_pow, op2_int fun _ _ _ _ => rfl⟩
theorem cm_op (hu : X.A.units + 65 < cLine) (o : Cm) : ∃ r, OpR X (compareOp o.py) r ∧ Op2 X.K r (cmF o) := by
  cases o with
  | eq => exact ⟨_, or_eq (by omega), op2_eq⟩
  | ne => exact ⟨_, or_ne (by omega), op2_eq⟩
  | lt => exact ⟨_, OpR.ci op_lt, op2_int fun _ _ _ _ => rfl⟩
  | le => exact ⟨_, OpR.ci op_le, op2_int fun _ _ _ _ => rfl⟩
  | gt => exact ⟨_, OpR.ci op_gt, op2_int fun _ _ _ _ => rfl⟩
  | ge => exact ⟨_, OpR.ci op_ge, op2_int fun _ _ _ _ => rfl⟩
  | is_ => exact ⟨_, op_isN, op2_is⟩
  | isn => exact ⟨_, op_notN, op2_isnot⟩
  | in_ => exact ⟨_, or_in hu, op2_in⟩
  | nin => exact ⟨_, or_notin hu, op2_in⟩
theorem frz_ok {K : Frag} {W : WX} {g : Gh} {s : S} {H : Hp} {σ : L2.St} {d : D} {v : V} {Q : VK} (R : Rel K g s H) (r : RD K g H d v) (h : Post K W g H σ (RD K) (frzF d s) Q) : Q v H := by
  cases d with
  | ref a =>
    replace h : Post K W g H σ (RD K) (match s.heap a with
      | some (.lst ds) => .ok (.lv ds) (s.free a)
      | _ => .bad) Q := h
    split at h
    · rename_i ds ha
      obtain ⟨p, rfl, hm⟩ := r
      obtain ⟨vs, h3, h4⟩ := hl_at R ha hm
      exact h (g.frz p) H _ stp_freeze (R.freeze ha hm) ⟨p, vs, rfl, .inr rfl, h3, RDs.mono stp_freeze.toStp0 _ _ h4⟩
    · exact h.elim
  | _ => exact post_ok R r h
theorem px_frz {W : WX} {e : Expr} {m : ME D} (h : PX X W e m) : PX X W e (op1M frzF m) :=
  PE.imp h fun σ H Q hq => (TX.bind (rel := RD X.K) hq).imp fun v H1 ⟨g1, x, s1, env, R1, E1, r1, p1⟩ => frz_ok R1 r1 p1
end
theorem opn_bl {X : Cx} (hu : X.A.units + 65 < cLine) (hc : X.calm = true) (hg : X.A.guards = some []) (b : Bl) (m : Bool) {W : WX} {e : Expr} {es : List Expr} {pos p : Pos} {mes : ME (List D)} (hgl : Gl X (blName b)) (hm : X.mg (blName b) = none)
    (he : starEach (e :: es) X.env = (false, eval e X.env) :: starEach es X.env) (hpl : (backTo pos (starEach es X.env)).any (·.1) = false) (ha : PL X W (e :: es) mes) : PX X W (.Call (.Name (blName b) p) (e :: es) [] pos) (argM (blF b m) mes) := by
  cases b with
  | len => exact px_blt cr_len opn_len hgl hm boot_len (by decide) (by decide) he hpl ha
  | int => exact px_bty call_int1 opn_int hgl hm boot_int (by decide) (by decide) he hpl ha
  | str => exact px_bty call_str_int opn_str hgl hm boot_str (by decide) (by decide) he hpl ha
  | tup => exact px_bty cr_tup opn_tup hgl hm boot_tuple (by decide) (by decide) he hpl ha
  | lst => exact px_bty (cr_list hc) opn_lst hgl hm boot_list (by decide) (by decide) he hpl ha
  | dict => exact px_bty (cr_dict hc) opn_dict hgl hm boot_dict (by decide) (by decide) he hpl ha
  | sort => exact px_blt (cr_sort (by omega) hc) opn_sort hgl hm boot_sorted (by decide) (by decide) he hpl ha
  | max2 => exact px_blt (call_max2 hc) opn_max2 hgl hm boot_max (by decide) (by decide) he hpl ha
  | min2 => exact px_blt (call_min2 hc) opn_min2 hgl hm boot_min (by decide) (by decide) he hpl ha
  | repr => exact px_blt (cr_repr hg (by omega)) opn_repr hgl hm boot_repr (by decide) (by decide) he hpl ha
theorem px_mts {X : Cx} {W : WX} (k : Mt) {o e : Expr} {es : List Expr} {apos cpos : Pos} {mo : ME D} {mes : ME (List D)} (ho : PX X W o mo) (ha : PL X W (e :: es) mes) (hbase : plainBase o = true) (hl : lineB apos cpos = true) (hf : fewB (e :: es) = true) (hst : (e :: es).all notStar = true) :
    PX X W (.Call (.Attribute o (mtName k) apos) (e :: es) [] cpos) (mthM isLst (mtF k) mo mes) := by
  have h1 : notStar e = true ∧ es.all notStar = true := by rw [List.all_cons] at hst; exact and2 hst
  cases k with
  | app => exact px_mt PySem.F.plainAttrs_list PySem.F.slot_list_append PySem.F.type_list_append mt_append opm_app ty_lst ho ha (base_of hbase) (few_of hst hf _ _) hl (star_of h1.1 _) (hpl_of h1.2 _ _)
  | ext => exact px_mt PySem.F.plainAttrs_list PySem.F.slot_list_extend PySem.F.type_list_extend mt_ext2 opm_ext2 ty_lst ho ha (base_of hbase) (few_of hst hf _ _) hl (star_of h1.1 _) (hpl_of h1.2 _ _)
  | ins => exact px_mt PySem.F.plainAttrs_list PySem.F.slot_list_insert PySem.F.type_list_insert mt_insert opm_ins ty_lst ho ha (base_of hbase) (few_of hst hf _ _) hl (star_of h1.1 _) (hpl_of h1.2 _ _)
  | idx => exact px_mt PySem.F.plainAttrs_list PySem.F.slot_list_index PySem.F.type_list_index mt_index opm_idx ty_lst ho ha (base_of hbase) (few_of hst hf _ _) hl (star_of h1.1 _) (hpl_of h1.2 _ _)
theorem blk_of {N : List Str} {sc scope : Scope} {own : List Nat} (h : blkB N sc scope own = true) : BlkOk N sc scope (ownOf N own) ∧ (ownOf N own).map (·.2) = own := by
  obtain ⟨h1, h2, h3, h4, h5⟩ := and5 h
  have e2 : (ownOf N own).map (·.2) = own := by
    unfold ownOf
    rw [List.map_map]
    exact List.map_id' own
  refine ⟨⟨beq_iff_eq.mp h1, fun y hy => beq_iff_eq.mp (List.all_eq_true.mp h3 y hy), fun p hp => ?_, fun y hy e => ?_, fun y hy e => ?_⟩, e2⟩
  · obtain ⟨i, hi, rfl⟩ := List.mem_map.mp hp
    have hl : i < N.length := by simpa using List.all_eq_true.mp h2 i hi
    show N[i]? = some ((N[i]?).getD "")
    rw [List.getElem?_eq_getElem hl]
    rfl
  · have := List.all_eq_true.mp h4 y hy
    rw [e] at this
    simpa using this
  · have := List.all_eq_true.mp h5 y hy
    have e' : (y.2 == NameKind.local || y.2 == NameKind.cell) = true := by
      rcases e with e | e <;> rw [e] <;> rfl
    rw [e'] at this
    rw [Bool.not_true, Bool.false_or, Bool.or_eq_true] at this
    rcases this with t | t
    · left
      obtain ⟨p, hp, e⟩ := List.any_eq_true.mp t
      exact List.mem_map.mpr ⟨p, hp, beq_iff_eq.mp e⟩
    · right
      intro hm
      rw [Bool.not_eq_true', List.any_eq_false] at t
      exact t y.1 hm (by simp)
theorem sub_of {is own : List Nat} (h : subB is own = true) : ∀ i ∈ is, i ∈ own := fun i hi => by
  obtain ⟨j, hj, e⟩ := List.any_eq_true.mp (List.all_eq_true.mp h i hi)
  rw [beq_iff_eq.mp e]
  exact hj
section
variable {P : Pi} {F : Nat → List D → S → R D} {G : Nat → D} {X : Cx} {W : WX} {sc : Scope} {bs : Option Scope}
theorem names_of (h : Ctx P F G X W sc bs) : ∀ {is : List Nat} {es : List Expr}, namesB P.N sc bs is es = true → PGsX X es is ∧ (assignEach es X.env).findIdx? (·.1) = none ∧ (assignEach es X.env).length = is.length
  | [], [], _ => ⟨pgsx_nil, rfl, rfl⟩
  | [], _ :: _, e => by cases e
  | _ :: _, [], e => by cases e
  | i :: is, e :: es, he => by
    cases e with
    | Name x p =>
      obtain ⟨h1, h2, h3, h4⟩ := and4 (show (P.N[i]? == some x && locB sc x && (fnb bs x || isLocal sc x) && namesB P.N sc bs is es) = true from he)
      obtain ⟨k1, k2, k3⟩ := names_of h h4
      refine ⟨pgsx_cons (by rw [h.N]; exact h.nd) (h.at h1) (h.loc h2) (h.fnl h3) k1, ?_, ?_⟩
      · show ((false, assign (.Name x p) X.env) :: assignEach es X.env).findIdx? (·.1) = none
        rw [List.findIdx?_cons]
        simp [k2]
      · show ((false, assign (.Name x p) X.env) :: assignEach es X.env).length = _
        rw [List.length_cons, k3]
        rfl
    | _ => cases he
theorem tg_of (h : Ctx P F G X W sc bs) {t : Tg} {e : Expr} (he : tgB P.N sc bs t e = true) : PGX X e t := by
  cases t with
  | name i =>
    cases e with
    | Name x p =>
      obtain ⟨h1, h2, h3⟩ := and3 (show (P.N[i]? == some x && locB sc x && (fnb bs x || isLocal sc x)) = true from he)
      exact pgx_name (by rw [h.N]; exact h.nd) (h.at h1) (h.loc h2) (h.fnl h3)
    | _ => cases he
  | tup is =>
    cases e with
    | Tuple es k p =>
      obtain ⟨k1, k2, k3⟩ := names_of h (show namesB P.N sc bs is es = true from he)
      exact pgx_tup h.calm k2 k3 k1
    | _ => cases he
theorem relabel_is (h : Ctx P F G X W sc bs) (scope : Scope) : relabel scope X.env = relabelS scope sc := by
  unfold relabel relabelS Env.kindOf
  rw [h.sc]
theorem Ctx.blk (h : Ctx P F G X W sc bs) (s : Shared) (H : Hp) (scope : Scope) (C : Addr) (cl : List (Str × Addr)) (fp : List Addr) : Ctx P F G (X.blk s H scope (compEnvC scope cl C X.env) fp) W0 (relabelS scope sc) (some scope) where
  N := h.N
  nd := h.nd
  sc := relabel_is h scope
  fn := fun x e => e
  calm := h.calm
  gd := h.gd
  room := h.room
  stk := fun e => nomatch e
  pass := fun e => nomatch e
  tk := fun u s' x => by
    obtain ⟨a, B, sI, pins, σ, H, cls, d, e, I, nb, up, sky, na, os, ag, w⟩ := x
    exact w.elim
  facts := h.facts
  cd := h.cd
theorem Ctx.gnx (h : Ctx P F G X W sc bs) (hd : 0 < P.dep) {scope : Scope} (hnc : ∀ y ∈ scope.names, y.2 ≠ NameKind.cell) (s : Shared) (H : Hp) (C : Addr) (code : Value) (fp : List Addr) (pn : List (Addr × Obj)) : Ctx P.low F G (gnX X s H (gnE X scope C code) fp pn) W0 scope (some scope) where
  N := h.N
  nd := h.nd
  sc := rfl
  fn := fun x e => by
    have e : (scope.names.lookup x == some NameKind.cell) = true := e
    exact absurd rfl (hnc _ (PySem.mem_of_lookup (beq_iff_eq.mp e)))
  calm := h.calm
  gd := h.gd
  room := ⟨h.room.hd, by
    have := h.room.dp
    show X.A.depth + 1 + 3 * (2 * (P.dep - 1) + 1) + 5 < recursionLimit
    omega, by
    have := h.room.un
    show X.A.units + 1 + 1 + 3 + 16 * (2 * (P.dep - 1) + 1) + 200 < cLine
    omega⟩
  stk := fun e => nomatch e
  pass := fun e => nomatch e
  tk := fun u s' x => by
    obtain ⟨a, B, sI, pins, σ, H, cls, d, e, I, nb, up, sky, na, os, ag, w⟩ := x
    exact w.elim
  facts := h.facts.low
  cd := fun e => nomatch e
theorem Ctx.tr' {W' : WX} {pn : List (Addr × Obj)} {xe : Value → Shared → Prop} (h : Ctx P F G X W sc bs) (tk : Takes (X.tr pn xe) W') (po : PassesOwn (model X.prog X.w) X.A X.env xe) : Ctx P F G (X.tr pn xe) W' sc bs where
  N := h.N
  nd := h.nd
  sc := h.sc
  fn := h.fn
  calm := h.calm
  gd := h.gd
  room := h.room
  stk := h.stk
  pass := fun _ => po
  tk := tk
  facts := h.facts
  cd := h.cd
theorem swap_eq {env : PySem.Env} {sc sp : Scope} {y : Str} {py epos : Pos} (hs : env.scope = sc) (hk : (sc.kind == .function) = true) : (env.blockKind == ScopeKind.function && env.kindOf y == some NameKind.local && py.line == epos.line && !sp.names.any fun x => match x with
    | (n, k) => n == y && (k == NameKind.local || k == NameKind.cell)) = swapB sc sp y py epos := by
  have e1 : env.blockKind = ScopeKind.function := by
    unfold Env.blockKind
    rw [hs]
    split
    · rfl
    · exact beq_iff_eq.mp hk
  unfold swapB isLocal Env.kindOf
  rw [e1, hs, hk]
  rfl
theorem nof {p : Prop} (h : false = true) : p := nomatch h
/-- each piece means what its core piece means -/
structure OkC (P : Pi) (F : Nat → List D → S → R D) (G : Nat → D) (X : Cx) (W : WX) (sc : Scope) (bs : Option Scope) (c : C) : Prop where
  x : ∀ e, (chk c P sc bs).x e = true → PX X W e (ev F G c).x := by exact fun _ h => nof h
  t : ∀ e, (chk c P sc bs).t e = true → PB X W e (ev F G c).t := by exact fun _ h => nof h
  w : ∀ e, (chk c P sc bs).w e = true → PW X e (TT' X.K W (ev F G c).t) := by exact fun _ h => nof h
  l : ∀ es, (chk c P sc bs).l es = true → PL X W es (ev F G c).l := by exact fun _ h => nof h
  i : ∀ tg e, (chk c P sc bs).i tg e = true → PIX X W tg e (ev F G c).i := by exact fun _ _ h => nof h
  s : ∀ st, (chk c P sc bs).s st = true → PSX X W st (ev F G c).s := by exact fun _ h => nof h
  b : ∀ st, (chk c P sc bs).b st = true → PSB X W st (ev F G c).s := by exact fun _ h => nof h
  ts : ∀ es, (chk c P sc bs).ts es = true → W = W0 → PTX X es (ev F G c).t := by exact fun _ h => nof h
  r : ∀ ks vs, (chk c P sc bs).r ks vs = true → ∀ pos, PRs X W pos ks vs (ev F G c).l := by exact fun _ _ h => nof h
theorem Str.beq_of {a b : Str} (h : (a == b) = true) : a = b := beq_iff_eq.mp h
theorem PTX_of {P : Pi} {F : Nat → List D → S → R D} {G : Nat → D} {X : Cx} {sc : Scope} {bs : Option Scope} {tst : C} (o : OkC P F G X W0 sc bs tst) {ifs : List Expr}
    (h : tsB (chk tst P sc bs) ifs = true) : PTX X ifs (ev F G tst).t := by
  cases ifs with
  | nil => exact o.ts [] h rfl
  | cons q qs =>
    cases qs with
    | nil => exact pt_one (o.t q h)
    | cons _ _ => cases h
theorem main (F : Nat → List D → S → R D) (G : Nat → D) (c : C) : ∀ (P : Pi) (X : Cx) (W : WX) (sc : Scope) (bs : Option Scope), Ctx P F G X W sc bs → OkC P F G X W sc bs c := by
  induction c with
  | var i =>
    intro P X W sc bs h
    refine { x := fun e he => ?_ }
    cases e with
    | Name y p =>
      obtain ⟨h1, h2, h3⟩ := and3 (show (P.N[i]? == some y && visB sc y && okName y) = true from he)
      obtain ⟨h4, h5⟩ := and2 (show (!dbg y && !(y == ("__classdict__" : Str))) = true from h3)
      exact px_var (h.at h1) (by rw [h.sc]; exact vis_of h2) (by simpa [dbg] using h4) (by simpa using h5)
    | _ => cases he
  | int i =>
    intro P X W sc bs h
    refine { x := fun e he => ?_ }
    cases e with
    | Constant v j p =>
      cases v with
      | int k => cases of_decide_eq_true (show decide (i = k) = true from he); exact px_int
      | _ => cases he
    | _ => cases he
  | str z =>
    intro P X W sc bs h
    refine { x := fun e he => ?_ }
    cases e with
    | Constant v j p =>
      cases v with
      | str y => cases Str.beq_of (show (z == y) = true from he); exact px_str
      | _ => cases he
    | _ => cases he
  | bl b =>
    intro P X W sc bs h
    refine { x := fun e he => ?_ }
    cases e with
    | Constant v j p =>
      cases v with
      | bool y => cases (beq_iff_eq.mp (show (b == y) = true from he)); exact px_bl
      | _ => cases he
    | _ => cases he
  | non =>
    intro P X W sc bs h
    refine { x := fun e he => ?_ }
    cases e with
    | Constant v j p =>
      cases v with
      | none => exact px_non
      | _ => cases he
    | _ => cases he
  | gl k =>
    intro P X W sc bs h
    refine { x := fun e he => ?_ }
    cases e with
    | Name y p =>
      obtain ⟨h1, h2, h3⟩ := and3 (show (P.gls[k]? == some y && glB sc y && !dbg y) = true from he)
      obtain ⟨u, v, g1, g2, g3⟩ := h.facts.gls k y (beq_iff_eq.mp h1)
      exact px_glob (h.gl h2) g1 g2 g3 (by simpa [dbg] using h3)
    | _ => cases he
  | bin o m a b iha ihb =>
    intro P X W sc bs h
    refine { x := fun e he => ?_ }
    cases e with
    | BinOp l p r pos =>
      obtain ⟨h1, h2, h3⟩ := and3 (show (p == o.py && (chk a P sc bs).x l && (chk b P sc bs).x r) = true from he)
      cases beq_iff_eq.mp h1
      obtain ⟨r', q1, q2⟩ := bin_op (X := X) o m
      exact px_op q1 q2 ((iha P X W sc bs h).x l h2) ((ihb P X W sc bs h).x r h3)
    | _ => cases he
  | cmp o a b iha ihb =>
    intro P X W sc bs h
    refine { x := fun e he => ?_ }
    cases e with
    | Compare l ps rs pos =>
      match ps, rs, he with
      | [p], [r], he =>
        obtain ⟨h1, h2, h3, h4⟩ := and4 (show (p == o.py && notSet r && (chk a P sc bs).x l && (chk b P sc bs).x r) = true from he)
        cases beq_iff_eq.mp h1
        obtain ⟨r', q1, q2⟩ := cm_op h.units o
        exact px_cmp q1 q2 (mark_of h2) ((iha P X W sc bs h).x l h3) ((ihb P X W sc bs h).x r h4)
    | _ => cases he
  | chn o p a b c iha ihb ihc =>
    intro P X W sc bs h
    refine { x := fun e he => ?_ }
    cases e with
    | Compare l ps rs pos =>
      match ps, rs, he with
      | [p1, p2], [r, q], he =>
        obtain ⟨h1, h2, h3, h4, h5, h6⟩ := and6 (show (p1 == o.py && p2 == p.py && notSet q && (chk a P sc bs).x l && (chk b P sc bs).x r && (chk c P sc bs).x q) = true from he)
        cases beq_iff_eq.mp h1
        cases beq_iff_eq.mp h2
        obtain ⟨r1, q1, q2⟩ := cm_op h.units o
        obtain ⟨r2, q3, q4⟩ := cm_op h.units p
        exact px_chn q1 q3 q2 q4 (mark_of h3) ((iha P X W sc bs h).x l h4) ((ihb P X W sc bs h).x r h5) ((ihc P X W sc bs h).x q h6)
    | _ => cases he
  | tchn o p a b c iha ihb ihc =>
    intro P X W sc bs h
    refine { t := fun e he => ?_ }
    cases e with
    | Compare l ps rs pos =>
      match ps, rs, he with
      | [p1, p2], [r, q], he =>
        obtain ⟨h1, h2, h3, h4, h5, h6⟩ := and6 (show (p1 == o.py && p2 == p.py && notSet q && (chk a P sc bs).x l && (chk b P sc bs).x r && (chk c P sc bs).x q) = true from he)
        cases beq_iff_eq.mp h1
        cases beq_iff_eq.mp h2
        obtain ⟨r1, q1, q2⟩ := cm_op h.units o
        obtain ⟨r2, q3, q4⟩ := cm_op h.units p
        exact pb_chn q1 q3 q2 q4 (mark_of h3) ((iha P X W sc bs h).x l h4) ((ihb P X W sc bs h).x r h5) ((ihc P X W sc bs h).x q h6)
    | _ => cases he
  | dpn =>
    intro P X W sc bs h
    refine { r := fun ks vs he pos => ?_ }
    match ks, vs, he with
    | [], [], _ => exact prs_nil
  | dpc k v r ihk ihv ihr =>
    intro P X W sc bs h
    refine { r := fun ks vs he pos => ?_ }
    match ks, vs, he with
    | some a :: ks, b :: vs, he =>
      obtain ⟨h1, h2, h3⟩ := and3 (show ((chk k P sc bs).x a && (chk v P sc bs).x b && (chk r P sc bs).r ks vs) = true from he)
      exact prs_cons ((ihk P X W sc bs h).x a h1) ((ihv P X W sc bs h).x b h2) ((ihr P X W sc bs h).r ks vs h3 pos)
  | dsp r ihr =>
    intro P X W sc bs h
    refine { x := fun e he => ?_ }
    cases e with
    | Dict ks vs pos =>
      match ks, he with
      | k :: ks, he =>
        obtain ⟨h1, h2⟩ := and2 (show (decide (ks.length < 15) && (chk r P sc bs).r (k :: ks) vs) = true from he)
        exact px_disp ((ihr P X W sc bs h).r _ _ h2 pos) (by simp) (by have := of_decide_eq_true h1; rw [List.length_cons]; omega)
    | _ => cases he
  | dspT k v ihk ihv =>
    intro P X W sc bs h
    refine { x := fun e he => ?_ }
    cases e with
    | Dict ks vs pos =>
      match ks, vs, he with
      | [some a], [b], he =>
        obtain ⟨h1, h2⟩ := and2 (show ((chk k P sc bs).x a && (chk v P sc bs).x b) = true from he)
        exact px_dispT (by have := h.units; omega) ((ihk P X W sc bs h).x a h1) ((ihv P X W sc bs h).x b h2)
    | _ => cases he
  | ctup as ihs =>
    intro P X W sc bs h
    refine { x := fun e he => ?_ }
    cases e with
    | Tuple es k pos => exact px_ctup ((ihs P X W sc bs h).l es he)
    | _ => cases he
  | aug i a iha =>
    intro P X W sc bs h
    refine { s := fun st he => ?_ }
    cases st with
    | AugAssign t o e p =>
      match t, he with
      | .Name y p', he =>
        obtain ⟨h1, h2, h3, h4, h5⟩ := and5 (show (o == .Add && P.N[i]? == some y && locB sc y && (fnb bs y || isLocal sc y) && (chk a P sc bs).x e) = true from he)
        cases beq_iff_eq.mp h1
        exact ps_aug' (by rw [h.N]; exact h.nd) (h.at h2) (h.loc h3) (h.fnl h4) ip_add op2_ipadd ((iha P X W sc bs h).x e h5)
    | _ => cases he
  | en a iha =>
    intro P X W sc bs h
    refine { i := fun tg e he => ?_ }
    cases tg with
    | Tuple elts kk tpos =>
      cases e with
      | Call fn es ks pos =>
        match fn, es, ks, he with
        | .Name y p, [e], [], he =>
          obtain ⟨h1, h2, h3⟩ := and3 (show (freeB P sc y "enumerate" && notStar e && (chk a P sc bs).x e) = true from he)
          obtain ⟨e1, e2, e3⟩ := h.free h1
          subst e1
          exact pi_en2 e2 e3 (star_of h2 _) ((iha P X W sc bs h).x e h3)
      | _ => cases he
    | _ => cases he
  | ix a b iha ihb =>
    intro P X W sc bs h
    refine { x := fun e he => ?_ }
    cases e with
    | Subscript l r pos =>
      obtain ⟨h1, h2, h3⟩ := and3 (show (notSlice r && (chk a P sc bs).x l && (chk b P sc bs).x r) = true from he)
      exact px_ix (or_ix (by have := h.units; omega)) op2_ix (ix_of h1) ((iha P X W sc bs h).x l h2) ((ihb P X W sc bs h).x r h3)
    | _ => cases he
  | neg a iha =>
    intro P X W sc bs h
    refine { x := fun e he => ?_ }
    cases e with
    | UnaryOp o r pos =>
      cases o with
      | USub => exact px_neg ((iha P X W sc bs h).x r he)
      | _ => cases he
    | _ => cases he
  | nil =>
    intro P X W sc bs h
    refine { l := fun es he => ?_ }
    cases es with
    | nil => exact pl_nil
    | cons _ _ => cases he
  | cons a as iha ihs =>
    intro P X W sc bs h
    refine { l := fun es he => ?_ }
    cases es with
    | nil => cases he
    | cons e es =>
      obtain ⟨h1, h2, h3⟩ := and3 (show (notStar e && (chk a P sc bs).x e && (chk as P sc bs).l es) = true from he)
      exact pl_cons (star_of h1 _) ((iha P X W sc bs h).x e h2) ((ihs P X W sc bs h).l es h3)
  | tup as ihs =>
    intro P X W sc bs h
    refine { x := fun e he => ?_ }
    cases e with
    | Tuple es k pos => exact px_tup ((ihs P X W sc bs h).l es he)
    | _ => cases he
  | lst m as ihs =>
    intro P X W sc bs h
    refine { x := fun e he => ?_ }
    cases e with
    | List es pos => exact px_lst ((ihs P X W sc bs h).l es he)
    | _ => cases he
  | dnew =>
    intro P X W sc bs h
    refine { x := fun e he => ?_ }
    cases e with
    | Dict ks vs pos =>
      match ks, vs, he with
      | [], [], _ => exact px_dnew (m := true)
    | _ => cases he
  | dnewT =>
    intro P X W sc bs h
    refine { x := fun e he => ?_ }
    cases e with
    | Dict ks vs pos =>
      match ks, vs, he with
      | [], [], _ => exact px_dnewT
    | _ => cases he
  | vnot a iha =>
    intro P X W sc bs h
    refine { x := fun e he => ?_ }
    cases e with
    | UnaryOp o r pos =>
      cases o with
      | Not => exact px_not ((iha P X W sc bs h).x r he)
      | _ => cases he
    | _ => cases he
  | vand a b iha ihb =>
    intro P X W sc bs h
    refine { x := fun e he => ?_ }
    cases e with
    | BoolOp o es pos =>
      match o, es, he with
      | .And, l :: r :: es, he =>
        obtain ⟨h1, h2⟩ := and2 (show ((chk a P sc bs).x l && (chk b P sc bs).x (.BoolOp .And (r :: es) pos)) = true from he)
        exact px_and ((iha P X W sc bs h).x l h1) ((ihb P X W sc bs h).x _ h2)
    | _ => cases he
  | vor a b iha ihb =>
    intro P X W sc bs h
    refine { x := fun e he => ?_ }
    cases e with
    | BoolOp o es pos =>
      match o, es, he with
      | .Or, l :: r :: es, he =>
        obtain ⟨h1, h2⟩ := and2 (show ((chk a P sc bs).x l && (chk b P sc bs).x (.BoolOp .Or (r :: es) pos)) = true from he)
        exact px_or ((iha P X W sc bs h).x l h1) ((ihb P X W sc bs h).x _ h2)
    | _ => cases he
  | v1 a iha =>
    intro P X W sc bs h
    refine { x := fun e he => ?_ }
    cases e with
    | BoolOp o es pos =>
      match es, he with
      | [l], he => exact px_one ((iha P X W sc bs h).x l he)
    | _ => cases he
  | ite t a b iht iha ihb =>
    intro P X W sc bs h
    refine { x := fun e he => ?_ }
    cases e with
    | IfExp q l r pos =>
      obtain ⟨h1, h2, h3⟩ := and3 (show ((chk t P sc bs).t q && (chk a P sc bs).x l && (chk b P sc bs).x r) = true from he)
      exact px_if ((iht P X W sc bs h).t q h1) ((iha P X W sc bs h).x l h2) ((ihb P X W sc bs h).x r h3)
    | _ => cases he
  | tru a iha =>
    intro P X W sc bs h
    refine { t := fun e he => ?_ }
    obtain ⟨h1, h2⟩ := and2 (show (valTest e && (chk a P sc bs).x e) = true from he)
    exact pb_truth (truth_of h1) ((iha P X W sc bs h).x e h2)
  | tcmp o a b iha ihb =>
    intro P X W sc bs h
    refine { t := fun e he => ?_ }
    cases e with
    | Compare l ps rs pos =>
      match ps, rs, he with
      | [p], [r], he =>
        obtain ⟨h1, h2, h3, h4⟩ := and4 (show (p == o.py && notSet r && (chk a P sc bs).x l && (chk b P sc bs).x r) = true from he)
        cases beq_iff_eq.mp h1
        obtain ⟨r', q1, q2⟩ := cm_op h.units o
        exact pb_cmp q1 q2 (mark_of h2) ((iha P X W sc bs h).x l h3) ((ihb P X W sc bs h).x r h4)
    | _ => cases he
  | tnot t iht =>
    intro P X W sc bs h
    refine { t := fun e he => ?_ }
    cases e with
    | UnaryOp o r pos =>
      cases o with
      | Not => exact pb_not ((iht P X W sc bs h).t r he)
      | _ => cases he
    | _ => cases he
  | tand t u iht ihu =>
    intro P X W sc bs h
    have hw : ∀ e, (chk (.tand t u) P sc bs).w e = true → PW X e (TT' X.K W (ev F G (.tand t u)).t) := by
      intro e he
      cases e with
      | BoolOp o es pos =>
        match o, es, he with
        | .And, l :: r :: es, he =>
          obtain ⟨h1, h2⟩ := and2 (show ((chk t P sc bs).t l && (chk u P sc bs).w (.BoolOp .And (r :: es) pos)) = true from he)
          exact PW.imp (pw_and ((iht P X W sc bs h).t l h1) ((ihu P X W sc bs h).w _ h2)) tAnd_of
      | _ => cases he
    exact { t := fun e he => (hw e he).pt, w := hw }
  | tor t u iht ihu =>
    intro P X W sc bs h
    have hw : ∀ e, (chk (.tor t u) P sc bs).w e = true → PW X e (TT' X.K W (ev F G (.tor t u)).t) := by
      intro e he
      cases e with
      | BoolOp o es pos =>
        match o, es, he with
        | .Or, l :: r :: es, he =>
          obtain ⟨h1, h2⟩ := and2 (show ((chk t P sc bs).t l && (chk u P sc bs).w (.BoolOp .Or (r :: es) pos)) = true from he)
          exact PW.imp (pw_or ((iht P X W sc bs h).t l h1) ((ihu P X W sc bs h).w _ h2)) tOr_of
      | _ => cases he
    exact { t := fun e he => (hw e he).pt, w := hw }
  | tand1 t iht =>
    intro P X W sc bs h
    refine { w := fun e he => ?_ }
    cases e with
    | BoolOp o es pos =>
      match o, es, he with
      | .And, [l], he => exact pw_and1 ((iht P X W sc bs h).t l he)
    | _ => cases he
  | tor1 t iht =>
    intro P X W sc bs h
    refine { w := fun e he => ?_ }
    cases e with
    | BoolOp o es pos =>
      match o, es, he with
      | .Or, [l], he => exact pw_or1 ((iht P X W sc bs h).t l he)
    | _ => cases he
  | abs => intro P X W sc bs h; exact {}
  | sl m a lo hi iha ihl ihh =>
    intro P X W sc bs h
    refine { x := fun e he => ?_ }
    cases e with
    | Subscript l r pos =>
      cases r with
      | Slice lo' hi' st p2 =>
        cases st with
        | some _ => cases he
        | none =>
          obtain ⟨h1, h2, h3⟩ := and3 (show ((chk a P sc bs).x l && optB (isAbs lo) (chk lo P sc bs) lo' && optB (isAbs hi) (chk hi P sc bs) hi') = true from he)
          have part : ∀ (q : C) (ih : OkC P F G X W sc bs q) (q' : Option Expr), optB (isAbs q) (chk q P sc bs) q' = true → PP X W q' (if isAbs q then none else some (ev F G q).x) := by
            intro q ih q' hq
            unfold optB at hq
            by_cases ha : isAbs q = true
            · rw [if_pos ha] at hq ⊢
              cases q' with
              | none => exact pp_none
              | some _ => cases hq
            · rw [if_neg ha] at hq ⊢
              cases q' with
              | none => cases hq
              | some e => exact pp_some (ih.x e hq)
          exact px_sl ((iha P X W sc bs h).x l h1) (part lo (ihl P X W sc bs h) lo' h2) (part hi (ihh P X W sc bs h) hi' h3)
      | _ => cases he
    | _ => cases he
  | rev m a iha =>
    intro P X W sc bs h
    refine { x := fun e he => ?_ }
    revert he
    show (match e with
      | .Subscript l (.Slice none none (some (.UnaryOp .USub (.Constant (.int i) _ _) _)) _) _ => decide (i = 1) && (chk a P sc bs).x l
      | _ => false) = true → _
    split
    · intro he
      obtain ⟨h1, h2⟩ := and2 he
      cases of_decide_eq_true h1
      exact px_rev ((iha P X W sc bs h).x _ h2)
    · intro he; cases he
  | fld c f a iha =>
    intro P X W sc bs h
    refine { x := fun e he => ?_ }
    cases e with
    | Attribute o g pos =>
      obtain ⟨h1, h2, h3, h4⟩ := and4 (show (f == g && natB P c f && plainBase o && (chk a P sc bs).x o) = true from he)
      cases Str.beq_of h1
      obtain ⟨q, hq, e⟩ := List.any_eq_true.mp h2
      obtain ⟨e1, e2⟩ := and2 e
      obtain ⟨f1, f2⟩ := h.facts.nats q hq
      rw [beq_iff_eq.mp e1] at f1 f2
      rw [beq_iff_eq.mp e2] at f2
      exact px_fld (base_of h3) f1 f2 ((iha P X W sc bs h).x o h4)
    | _ => cases he
  | call j as ihs =>
    intro P X W sc bs h
    refine { x := fun e he => ?_ }
    cases e with
    | Call fn es ks pos =>
      cases fn with
      | Name y p =>
        cases ks with
        | cons _ _ => cases he
        | nil =>
          obtain ⟨h1, h2, h3, h4⟩ := and4 (show ((match P.fns[j]? with
            | some i => isFn i.kind && i.name == y && decide (i.dep < P.dep)
            | none => false) && glB sc y && !dbg y && (chk as P sc bs).l es) = true from he)
          cases hj : P.fns[j]? with
          | none => rw [hj] at h1; cases h1
          | some i =>
            rw [hj] at h1
            obtain ⟨k1, k2, k3⟩ := and3 h1
            have hd : i.dep < P.dep := of_decide_eq_true k3
            obtain ⟨⟨f, fd, f1, f2, f3, f4⟩, f5⟩ := h.facts.fns j i hj hd
            have ek : i.kind = .fn := by
              cases hk : i.kind with
              | fn => rfl
              | meth c => rw [hk] at k1; cases k1
              | init c => rw [hk] at k1; cases k1
            rw [ek] at f4
            have ey := beq_iff_eq.mp k2
            subst ey
            have hr : Room (2 * i.dep + 2) X.A := h.room.mono (by omega)
            have hl := (ihs P X W sc bs h).l es h4
            have hst := l_star h4
            cases es with
            | nil =>
              cases as with
              | nil => exact px_call0 f5 h.tk f1 hr h.gd (h.gl h2) f4 f3 f2 (by simpa [dbg] using h3)
              | cons a b => exact nof (show false = true from h4)
              | _ => exact absurd h4 Bool.false_ne_true
            | cons e es =>
              rw [List.all_cons] at hst
              exact px_call f5 h.tk f1 hr h.gd (h.gl h2) f4 f3 f2 (by simpa [dbg] using h3) (star_of (and2 hst).1 _) (hpl_of (and2 hst).2 _ _) hl
      | _ => cases he
    | _ => cases he
  | meth c n j o as iho ihs =>
    intro P X W sc bs h
    refine { x := fun e he => ?_ }
    cases e with
    | Call fn es ks pos =>
      cases fn with
      | Attribute r m apos =>
        cases ks with
        | cons _ _ => cases he
        | nil =>
          obtain ⟨h1, h2, h3, h4, h5, h6⟩ := and6 (show ((match P.fns[j]? with
            | some i => isMeth c i.kind && i.name == m && n == m && decide (i.dep < P.dep)
            | none => false) && lineB apos pos && fewB es && plainBase r && (chk o P sc bs).x r && (chk as P sc bs).l es) = true from he)
          cases hj : P.fns[j]? with
          | none => rw [hj] at h1; cases h1
          | some i =>
            rw [hj] at h1
            obtain ⟨k1, k2, k4, k3⟩ := and4 h1
            have hd : i.dep < P.dep := of_decide_eq_true k3
            obtain ⟨⟨f, fd, f1, f2, f3, f4⟩, f5⟩ := h.facts.fns j i hj hd
            have ek : i.kind = .meth c := by
              cases hk : i.kind with
              | fn => rw [hk] at k1; cases k1
              | meth d => rw [hk] at k1; rw [beq_iff_eq.mp (show (c == d) = true from k1)]
              | init d => rw [hk] at k1; cases k1
            rw [ek] at f4
            obtain ⟨cl, hme⟩ := f4
            have ey := beq_iff_eq.mp k2
            have en := beq_iff_eq.mp k4
            subst en
            rw [ey] at hme
            have hr : Room (2 * i.dep + 2) X.A := h.room.mono (by omega)
            have hl := (ihs P X W sc bs h).l es h6
            have hst := l_star h6
            have ht := meth_eval (m := n) (env := X.env) h4 h2 hst h3
            cases es with
            | nil =>
              cases as with
              | nil => exact px_meth0 f5 h.tk cl hme f1 hr h.gd f2 ht ((iho P X W sc bs h).x r h5)
              | cons a b => exact nof (show false = true from h6)
              | _ => exact absurd h6 Bool.false_ne_true
            | cons e es =>
              have hst' := hst
              rw [List.all_cons] at hst'
              exact px_meth f5 h.tk cl hme f1 hr h.gd f2 (star_of (and2 hst').1 _) (hpl_of (and2 hst').2 _ _) ht ((iho P X W sc bs h).x r h5) hl
      | _ => cases he
    | _ => cases he
  | mk c j as ihs =>
    intro P X W sc bs h
    refine { x := fun e he => ?_ }
    cases e with
    | Call fn es ks pos =>
      cases fn with
      | Name y p =>
        cases ks with
        | cons _ _ => cases he
        | nil =>
          obtain ⟨h1, h0, h2, h3, h4⟩ := and5 (show ((match P.fns[j]? with
            | some i => isInit c i.kind && decide (i.dep < P.dep)
            | none => false) && c == y && glB sc y && !dbg y && (chk as P sc bs).l es) = true from he)
          have ec := beq_iff_eq.mp h0
          subst ec
          cases hj : P.fns[j]? with
          | none => rw [hj] at h1; cases h1
          | some i =>
            rw [hj] at h1
            obtain ⟨k1, k3⟩ := and2 h1
            have hd : i.dep < P.dep := of_decide_eq_true k3
            obtain ⟨⟨f, fd, f1, f2, f3, f4⟩, f5⟩ := h.facts.fns j i hj hd
            have ek : i.kind = .init c := by
              cases hk : i.kind with
              | fn => rw [hk] at k1; cases k1
              | meth d => rw [hk] at k1; cases k1
              | init d => rw [hk] at k1; rw [beq_iff_eq.mp (show (c == d) = true from k1)]
            rw [ek] at f4
            obtain ⟨mk, hmg⟩ := f4
            have hr : Room (2 * i.dep + 2 + 1) X.A := h.room.mono (by omega)
            have hl := (ihs P X W sc bs h).l es h4
            have hst := l_star h4
            cases es with
            | nil =>
              cases as with
              | nil => exact px_mk0 f5 h.tk mk f1 hr h.gd (h.gl h2) hmg f2 (by simpa [dbg] using h3)
              | cons a b => exact nof (show false = true from h4)
              | _ => exact absurd h4 Bool.false_ne_true
            | cons e es =>
              rw [List.all_cons] at hst
              exact px_mk f5 h.tk mk f1 hr h.gd (h.gl h2) hmg f2 (by simpa [dbg] using h3) (star_of (and2 hst).1 _) (hpl_of (and2 hst).2 _ _) hl
      | _ => cases he
    | _ => cases he
  | blt b m as ihs =>
    intro P X W sc bs h
    refine { x := fun e he => ?_ }
    cases e with
    | Call fn es ks pos =>
      match fn, es, ks, he with
      | .Name y p, e :: es, [], he =>
        obtain ⟨h1, h2⟩ := and2 (show (freeB P sc y (blName b) && (chk as P sc bs).l (e :: es)) = true from he)
        obtain ⟨e1, e2, e3⟩ := h.free h1
        subst e1
        have hst := l_star h2
        rw [List.all_cons] at hst
        exact opn_bl h.units h.calm h.gd b m e2 e3 (star_of (and2 hst).1 _) (hpl_of (and2 hst).2 _ _) ((ihs P X W sc bs h).l _ h2)
    | _ => cases he
  | mt k o as iho ihs =>
    intro P X W sc bs h
    refine { x := fun e he => ?_ }
    cases e with
    | Call fn es ks pos =>
      match fn, es, ks, he with
      | .Attribute r m apos, e :: es, [], he =>
        obtain ⟨h1, h2, h3, h4, h5, h6⟩ := and6 (show (m == mtName k && lineB apos pos && fewB (e :: es) && plainBase r && (chk o P sc bs).x r && (chk as P sc bs).l (e :: es)) = true from he)
        have e1 := beq_iff_eq.mp h1
        subst e1
        exact px_mts k ((iho P X W sc bs h).x r h5) ((ihs P X W sc bs h).l _ h6) h4 h2 h3 (l_star h6)
    | _ => cases he
  | pop0 o iho =>
    intro P X W sc bs h
    refine { x := fun e he => ?_ }
    cases e with
    | Call fn es ks pos =>
      match fn, es, ks, he with
      | .Attribute r m apos, [], [], he =>
        obtain ⟨h1, h2, h3, h4⟩ := and4 (show (m == ("pop" : Str) && lineB apos pos && plainBase r && (chk o P sc bs).x r) = true from he)
        have e1 := beq_iff_eq.mp h1
        subst e1
        exact px_mt0 PySem.F.plainAttrs_list PySem.F.slot_list_pop PySem.F.type_list_pop mt_pop opm_pop0 ty_lst ((iho P X W sc bs h).x r h4) (base_of h3) h2
    | _ => cases he
  | lvals m o iho =>
    intro P X W sc bs h
    refine { x := fun e he => ?_ }
    cases e with
    | Call fn es ks pos =>
      match fn, es, ks, he with
      | .Name y p, [.Call (.Attribute r mn apos) [] [] mpos], [], he =>
        obtain ⟨h1, h2, h3, h4, h5⟩ := and5 (show (freeB P sc y "list" && mn == ("values" : Str) && lineB apos mpos && plainBase r && (chk o P sc bs).x r) = true from he)
        obtain ⟨e1, e2, e3⟩ := h.free h1
        subst e1
        have e4 := beq_iff_eq.mp h2
        subst e4
        exact px_lvals h.calm e2 e3 ((iho P X W sc bs h).x r h5) (base_of h4) h3 (star_of rfl _)
    | _ => cases he
  | pop o a iho iha =>
    intro P X W sc bs h
    refine { x := fun e he => ?_ }
    cases e with
    | Call fn es ks pos =>
      match fn, es, ks, he with
      | .Attribute r m apos, [e], [], he =>
        obtain ⟨h1, h2, h3, h4, h5, h6⟩ := and6 (show (m == ("pop" : Str) && lineB apos pos && plainBase r && notStar e && (chk o P sc bs).x r && (chk a P sc bs).x e) = true from he)
        have e1 := beq_iff_eq.mp h1
        subst e1
        exact px_pop1 ((iho P X W sc bs h).x r h5) ((iha P X W sc bs h).x e h6) (star_of h4 _) (m1_of h3 h2 h4)
    | _ => cases he
  | get1 o a iho iha =>
    intro P X W sc bs h
    refine { x := fun e he => ?_ }
    cases e with
    | Call fn es ks pos =>
      match fn, es, ks, he with
      | .Attribute r m apos, [e], [], he =>
        obtain ⟨h1, h2, h3, h4, h5, h6⟩ := and6 (show (m == ("get" : Str) && lineB apos pos && plainBase r && notStar e && (chk o P sc bs).x r && (chk a P sc bs).x e) = true from he)
        have e1 := beq_iff_eq.mp h1
        subst e1
        exact px_get1 (by have := h.units; omega) ((iho P X W sc bs h).x r h5) ((iha P X W sc bs h).x e h6) (m1_of h3 h2 h4)
    | _ => cases he
  | get2 o a b iho iha ihb =>
    intro P X W sc bs h
    refine { x := fun e he => ?_ }
    cases e with
    | Call fn es ks pos =>
      match fn, es, ks, he with
      | .Attribute r m apos, [e, f], [], he =>
        obtain ⟨h1, h2, h3, h4, h5, h6, h7, h8⟩ := and8 (show (m == ("get" : Str) && lineB apos pos && plainBase r && notStar e && notStar f && (chk o P sc bs).x r && (chk a P sc bs).x e && (chk b P sc bs).x f) = true from he)
        have e1 := beq_iff_eq.mp h1
        subst e1
        exact px_get2 (by have := h.units; omega) ((iho P X W sc bs h).x r h6) ((iha P X W sc bs h).x e h7) ((ihb P X W sc bs h).x f h8) (m2_of h3 h2 h4 h5)
    | _ => cases he
  | frz a iha =>
    intro P X W sc bs h
    exact { x := fun e he => px_frz ((iha P X W sc bs h).x e he) }
  | lk i a ihi iha =>
    intro P X W sc bs h
    exact { x := fun e he => px_lock ((iha P X W sc bs h).x e he) }
  | gen b t own it el ihi ihe =>
    intro P X W sc bs h
    refine { x := fun e he => ?_ }
    cases e with
    | Call fn es ks pos =>
      match fn, es, ks, he with
      | .Name y p, [.GeneratorExp elt [⟨tg, iter, ifs, n⟩] scope gpos], [], he =>
        obtain ⟨h1, h2, h3, h4, h5, h6, h7, h8⟩ := and8 (show ((P.gen && P.lams.all fun p => decide ((p.line, p.col) ≠ (gpos.line, gpos.col))) && (y == gnm b && freeB P sc y (gnm b)) && decide (0 < P.dep) && (ifs.isEmpty && decide (n = 0)) && (blkB P.N sc scope own && subB (slots t) own) &&
          (notSet iter && notLst iter && !scope.isCoroutine && scope.names.all (fun y => !(y.2 == .cell)) && scope.names.lookup (".0" : Str) == some NameKind.local) && ((chk it P sc bs).i tg iter && tgB P.N scope (some scope) t tg) && (chk el P.low scope (some scope)).x elt) = true from he)
        obtain ⟨h1a, h1b⟩ := and2 h1
        obtain ⟨h2a, h2b⟩ := and2 h2
        obtain ⟨h4a, h4b⟩ := and2 h4
        obtain ⟨h5a, h5b⟩ := and2 h5
        obtain ⟨h6a, h6b, h6c, h6d, h6e⟩ := and5 h6
        obtain ⟨h7a, h7b⟩ := and2 h7
        have ei : ifs = [] := List.isEmpty_iff.mp h4a
        subst ei
        cases of_decide_eq_true h4b
        have hd := of_decide_eq_true h3
        obtain ⟨ok, eo⟩ := blk_of h5a
        obtain ⟨e1, e2, e3⟩ := h.free h2b
        subst e1
        obtain ⟨q, hq, hcode, hlq, _⟩ := h.cd h1a
        have hlm : ∀ p ∈ q.lm, (p.line, p.col) ≠ (gpos.line, gpos.col) := fun p hp => of_decide_eq_true (List.all_eq_true.mp h1b p (by rw [← hlq]; exact hp))
        have hnc : ∀ y ∈ scope.names, y.2 ≠ NameKind.cell := fun y hy e => by
          have := List.all_eq_true.mp h6d y hy
          rw [e] at this
          exact absurd this (by decide)
        have hsl : ∀ i ∈ slots t, i ∈ (ownOf P.N own).map (·.2) := by rw [eo]; exact sub_of h5b
        have hs : ∀ x, genFold iter X.env x = pure x := fun x => by
          have := fold_of (env := X.env) h6a x
          unfold genFold
          cases iter with
          | List es k => exact nof h6b
          | _ => exact this
        have low := fun s H C code fp pn => h.gnx hd hnc s H C code fp pn
        have z := px_gen (X := X) (W := W) (b := b) (elt := elt) (gpos := gpos) (pos := pos) (p := p) (t := t) (own := ownOf P.N own) h.room h.calm (by rw [h.N]; exact h.nd) e2 e3 hq h.facts.tnd hlm (h.facts.tabs q hq) hcode (by rw [h.N, h.sc]; exact ok) hnc (beq_iff_eq.mp h6e) (by simpa using h6c) hs hsl ((ihi P X W sc bs h).i tg iter h7a)
          (fun s H C code fp pn => tg_of (low s H C code fp pn) h7b) (fun s H C code fp pn => (ihe P.low _ W0 _ _ (low s H C code fp pn)).x elt h8)
        rw [eo] at z
        exact z
    | _ => cases he
  | lc m t own it tst el ihi iht ihe =>
    intro P X W sc bs h
    refine { x := fun e he => ?_ }
    cases e with
    | ListComp elt gens scope pos =>
      match gens, he with
      | [⟨tg, iter, ifs, n⟩], he =>
        obtain ⟨h1, h2, h3, h4, h5, h6, h7, h8⟩ := and8 (show (decide (n = 0) && blkB P.N sc scope own && subB (slots t) own && notSet iter && (chk it P sc bs).i tg iter &&
          tgB P.N (relabelS scope sc) (some scope) t tg && tsB (chk tst P (relabelS scope sc) (some scope)) ifs && (chk el P (relabelS scope sc) (some scope)).x elt) = true from he)
        cases of_decide_eq_true h1
        obtain ⟨ok, eo⟩ := blk_of h2
        have hsl : ∀ i ∈ slots t, i ∈ (ownOf P.N own).map (·.2) := by rw [eo]; exact sub_of h3
        have q := px_lc (X := X) (W := W) (m := m) (elt := elt) (pos := pos) h.calm (by rw [h.N]; exact h.nd) (own := ownOf P.N own) (by rw [h.N, h.sc]; exact ok) hsl (fold_of h4) ((ihi P X W sc bs h).i tg iter h5)
          (fun s H C cl fp => tg_of (h.blk s H scope C cl fp) h6) (fun s H C cl fp => PTX_of (iht P _ W0 _ _ (h.blk s H scope C cl fp)) h7) (fun s H C cl fp => (ihe P _ W0 _ _ (h.blk s H scope C cl fp)).x elt h8)
        rw [eo] at q
        exact q
    | _ => cases he
  | dc t own it tst k v ihi iht ihk ihv =>
    intro P X W sc bs h
    refine { x := fun e he => ?_ }
    cases e with
    | DictComp kx vx gens scope pos =>
      match gens, he with
      | [⟨tg, iter, ifs, n⟩], he =>
        obtain ⟨h0, h8'⟩ := and2 (show (decide (n = 0) && blkB P.N sc scope own && subB (slots t) own && notSet iter && (chk it P sc bs).i tg iter &&
          tgB P.N (relabelS scope sc) (some scope) t tg && tsB (chk tst P (relabelS scope sc) (some scope)) ifs && (chk k P (relabelS scope sc) (some scope)).x kx && (chk v P (relabelS scope sc) (some scope)).x vx) = true from he)
        obtain ⟨h1, h2, h3, h4, h5, h6, h7, h8⟩ := and8 h0
        cases of_decide_eq_true h1
        obtain ⟨ok, eo⟩ := blk_of h2
        have hsl : ∀ i ∈ slots t, i ∈ (ownOf P.N own).map (·.2) := by rw [eo]; exact sub_of h3
        have q := px_dc (X := X) (W := W) (m := true) (kx := kx) (vx := vx) (pos := pos) h.calm (by rw [h.N]; exact h.nd) (own := ownOf P.N own) (by rw [h.N, h.sc]; exact ok) hsl (fold_of h4) ((ihi P X W sc bs h).i tg iter h5)
          (fun s H C cl fp => tg_of (h.blk s H scope C cl fp) h6) (fun s H C cl fp => PTX_of (iht P _ W0 _ _ (h.blk s H scope C cl fp)) h7) (fun s H C cl fp => (ihk P _ W0 _ _ (h.blk s H scope C cl fp)).x kx h8) (fun s H C cl fp => (ihv P _ W0 _ _ (h.blk s H scope C cl fp)).x vx h8')
        rw [eo] at q
        exact q
    | _ => cases he
  | yes =>
    intro P X W sc bs h
    refine { ts := fun es he _ => ?_ }
    cases es with
    | nil => exact pt_yes
    | cons _ _ => cases he
  | rng1 a iha =>
    intro P X W sc bs h
    refine { i := fun tg e he => ?_ }
    cases e with
    | Call fn es ks pos =>
      match fn, es, ks, he with
      | .Name y p, [e], [], he =>
        obtain ⟨h1, h2, h3⟩ := and3 (show (freeB P sc y "range" && notStar e && (chk a P sc bs).x e) = true from he)
        obtain ⟨e1, e2, e3⟩ := h.free h1
        subst e1
        exact pi_rng1 e2 e3 (star_of h2 _) ((iha P X W sc bs h).x e h3)
    | _ => cases he
  | rng2 a b iha ihb =>
    intro P X W sc bs h
    refine { i := fun tg e he => ?_ }
    cases e with
    | Call fn es ks pos =>
      match fn, es, ks, he with
      | .Name y p, [e, f], [], he =>
        obtain ⟨h1, h2, h3, h4, h5⟩ := and5 (show (freeB P sc y "range" && notStar e && notStar f && (chk a P sc bs).x e && (chk b P sc bs).x f) = true from he)
        obtain ⟨e1, e2, e3⟩ := h.free h1
        subst e1
        exact pi_rng2 e2 e3 (star_of h2 _) (star_of h3 _) ((iha P X W sc bs h).x e h4) ((ihb P X W sc bs h).x f h5)
    | _ => cases he
  | it a iha =>
    intro P X W sc bs h
    refine { i := fun tg e he => ?_ }
    have hx := (iha P X W sc bs h).x e he
    exact pi_any (pi_str hx) (L2.pi_keys hx) hx
  | vals a iha =>
    intro P X W sc bs h
    refine { i := fun tg e he => ?_ }
    cases e with
    | Call fn es ks pos =>
      match fn, es, ks, he with
      | .Attribute r m apos, [], [], he =>
        obtain ⟨h1, h2, h3, h4⟩ := and4 (show (m == ("values" : Str) && lineB apos pos && plainBase r && (chk a P sc bs).x r) = true from he)
        have e1 := beq_iff_eq.mp h1
        subst e1
        exact pi_vals' ((iha P X W sc bs h).x r h4) (base_of h3) h2
    | _ => cases he
  | keys a iha =>
    intro P X W sc bs h
    refine { i := fun tg e he => ?_ }
    cases e with
    | Call fn es ks pos =>
      match fn, es, ks, he with
      | .Attribute r m apos, [], [], he =>
        obtain ⟨h1, h2, h3, h4⟩ := and4 (show (m == ("keys" : Str) && lineB apos pos && plainBase r && (chk a P sc bs).x r) = true from he)
        have e1 := beq_iff_eq.mp h1
        subst e1
        exact pi_keysM' ((iha P X W sc bs h).x r h4) (base_of h3) h2
    | _ => cases he
  | items a iha =>
    intro P X W sc bs h
    refine { i := fun tg e he => ?_ }
    cases e with
    | Call fn es ks pos =>
      match tg, fn, es, ks, he with
      | .Tuple _ _ _, .Attribute r m apos, [], [], he =>
        obtain ⟨h1, h2, h3, h4⟩ := and4 (show (m == ("items" : Str) && lineB apos pos && plainBase r && (chk a P sc bs).x r) = true from he)
        have e1 := beq_iff_eq.mp h1
        subst e1
        exact pi_items' ((iha P X W sc bs h).x r h4) (base_of h3) h2
    | _ => cases tg <;> cases he
  | nx =>
    intro P X W sc bs h
    refine { s := fun st he => ?_ }
    cases st with
    | Pass p => exact ps_pass'
    | Expr e p =>
      match e, he with
      | .Constant (.str _) _ _, _ => exact ps_doc'
    | _ => cases he
  | ret a iha =>
    intro P X W sc bs h
    refine { s := fun st he => ?_ }
    cases st with
    | Return v p =>
      match v, he with
      | some e, he => exact ps_ret' ((iha P X W sc bs h).x e he)
    | _ => cases he
  | retN =>
    intro P X W sc bs h
    refine { s := fun st he => ?_ }
    cases st with
    | Return v p =>
      match v, he with
      | none, he => exact ps_retN'
    | _ => cases he
  | set i a iha =>
    intro P X W sc bs h
    refine { s := fun st he => ?_ }
    cases st with
    | Assign ts e p =>
      match ts, he with
      | [.Name y py], he =>
        obtain ⟨h1, h2, h3, h4, h5⟩ := and5 (show (P.N[i]? == some y && locB sc y && (fnb bs y || isLocal sc y) && swapFree sc e y py && (chk a P sc bs).x e) = true from he)
        refine ps_set' (by rw [h.N]; exact h.nd) (h.at h1) (h.loc h2) (h.fnl h3) ?_ ((iha P X W sc bs h).x e h5)
        unfold swapFree at h4
        rw [Bool.or_eq_true] at h4
        cases e with
        | ListComp el gs sp epos =>
          rcases h4 with h4 | h4
          · cases h4
          · obtain ⟨k1, k2⟩ := and2 h4
            have k3 : swapB sc sp y py epos = false := by simpa using k2
            exact congrArg pure ((swap_eq h.sc k1).trans k3)
        | DictComp kx vx gs sp epos =>
          rcases h4 with h4 | h4
          · cases h4
          · obtain ⟨k1, k2⟩ := and2 h4
            have k3 : swapB sc sp y py epos = false := by simpa using k2
            exact congrArg pure ((swap_eq h.sc k1).trans k3)
        | SetComp el gs sp epos =>
          rcases h4 with h4 | h4
          · cases h4
          · exact nof (and2 h4).2
        | _ => rfl
    | _ => cases he
  | setT t a iha =>
    intro P X W sc bs h
    refine { s := fun st he => ?_ }
    cases st with
    | Assign ts e p =>
      match ts, he with
      | [.Tuple es k q], he =>
        obtain ⟨h1, h2, h3⟩ := and3 (show (notTup e && tgB P.N sc bs t (.Tuple es k q) && (chk a P sc bs).x e) = true from he)
        refine ps_setT (tg_of h h2) ?_ ?_ rfl ((iha P X W sc bs h).x e h3)
        · cases e <;> rfl
        · cases e with
          | Tuple _ _ _ => cases h1
          | _ => rfl
    | _ => cases he
  | setI o i v iho ihi ihv =>
    intro P X W sc bs h
    refine { s := fun st he => ?_ }
    cases st with
    | Assign ts e p =>
      match ts, he with
      | [.Subscript r q p'], he =>
        obtain ⟨h1, h2, h3, h4⟩ := and4 (show (notSlice q && (chk o P sc bs).x r && (chk i P sc bs).x q && (chk v P sc bs).x e) = true from he)
        refine ps_setI (by have := h.units; omega) (fun v => ?_) ?_ ((iho P X W sc bs h).x r h2) ((ihi P X W sc bs h).x q h3) ((ihv P X W sc bs h).x e h4)
        · cases q with
          | Slice _ _ _ _ => cases h1
          | _ => rfl
        · cases e <;> rfl
    | _ => cases he
  | setF c f o v iho ihv =>
    intro P X W sc bs h
    refine { s := fun st he => ?_ }
    cases st with
    | Assign ts e p =>
      match ts, he with
      | [.Attribute r g p'], he =>
        obtain ⟨h1, h2, h3, h4⟩ := and4 (show (f == g && natB P c f && (chk o P sc bs).x r && (chk v P sc bs).x e) = true from he)
        cases Str.beq_of h1
        obtain ⟨q, hq, e0⟩ := List.any_eq_true.mp h2
        obtain ⟨e1, e2⟩ := and2 e0
        obtain ⟨f1, f2⟩ := h.facts.nats q hq
        rw [beq_iff_eq.mp e1] at f1 f2
        rw [beq_iff_eq.mp e2] at f2
        exact ps_setF f1 f2 ((iho P X W sc bs h).x r h3) ((ihv P X W sc bs h).x e h4)
    | _ => cases he
  | ex a iha =>
    intro P X W sc bs h
    refine { s := fun st he => ?_ }
    cases st with
    | Expr e p =>
      obtain ⟨h1, h2⟩ := and2 (show (notComp e && (chk a P sc bs).x e) = true from he)
      refine ps_expr' ?_ ((iha P X W sc bs h).x e h2)
      cases e with
      | ListComp _ _ _ _ => cases h1
      | SetComp _ _ _ _ => cases h1
      | DictComp _ _ _ _ _ => cases h1
      | _ => rfl
    | _ => cases he
  | ifs t a b iht iha ihb =>
    intro P X W sc bs h
    refine { s := fun st he => ?_ }
    cases st with
    | If e p q pos =>
      obtain ⟨h1, h2, h3⟩ := and3 (show ((chk t P sc bs).t e && (chk a P sc bs).b p && (chk b P sc bs).b q) = true from he)
      exact ps_if' ((iht P X W sc bs h).t e h1) ((iha P X W sc bs h).b p h2) ((ihb P X W sc bs h).b q h3)
    | _ => cases he
  | whl t b iht ihb =>
    intro P X W sc bs h
    refine { s := fun st he => ?_ }
    cases st with
    | While e p q pos =>
      match q, he with
      | [], he =>
        obtain ⟨h1, h2, h3⟩ := and3 (show (bs.isNone && (chk t P sc bs).t e && (chk b P sc bs).b p) = true from he)
        exact ps_while' (h.pass (Option.isNone_iff_eq_none.mp h1)) ((iht P X W sc bs h).t e h2) ((ihb P X W sc bs h).b p h3)
    | _ => cases he
  | fors t it b ihi ihb =>
    intro P X W sc bs h
    refine { s := fun st he => ?_ }
    cases st with
    | For tg iter body q pos =>
      match q, he with
      | [], he =>
        obtain ⟨h1, h2, h3, h4, h5⟩ := and5 (show (bs.isNone && notSet iter && (chk it P sc bs).i tg iter && tgB P.N sc bs t tg && (chk b P sc bs).b body) = true from he)
        exact ps_for' (h.pass (Option.isNone_iff_eq_none.mp h1)) h.calm ((ihi P X W sc bs h).i tg iter h3) (tg_of h h4) ((ihb P X W sc bs h).b body h5) (fold_of h2)
    | _ => cases he
  | brk =>
    intro P X W sc bs h
    refine { s := fun st he => ?_ }
    cases st with
    | Break p => exact ps_break'
    | _ => cases he
  | cnt =>
    intro P X W sc bs h
    refine { s := fun st he => ?_ }
    cases st with
    | Continue p => exact ps_continue'
    | _ => cases he
  | skip =>
    intro P X W sc bs h
    refine { b := fun st he => ?_ }
    cases st with
    | nil => exact pss_nil'
    | cons _ _ => cases he
  | seq a b iha ihb =>
    intro P X W sc bs h
    refine { b := fun st he => ?_ }
    cases st with
    | nil => cases he
    | cons s rest =>
      obtain ⟨h1, h2⟩ := and2 (show ((chk a P sc bs).s s && (chk b P sc bs).b rest) = true from he)
      exact pss_cons' ((iha P X W sc bs h).s s h1) ((ihb P X W sc bs h).b rest h2)
  | lks i s ihi ihs =>
    intro P X W sc bs h
    exact { s := fun st he => ps_lock' ((ihs P X W sc bs h).s st he) }
  | dzip a b iha ihb =>
    intro P X W sc bs h
    refine { x := fun e he => ?_ }
    cases e with
    | Call fn es ks pos =>
      match fn, es, ks, he with
      | .Name y p, [.Call (.Name z p2) [e, f] [] q], [], he =>
        obtain ⟨h1, h2, h3, h4, h5, h6⟩ := and6 (show (freeB P sc y "dict" && freeB P sc z "zip" && notStar e && notStar f && (chk a P sc bs).x e && (chk b P sc bs).x f) = true from he)
        obtain ⟨e1, e2, e3⟩ := h.free h1
        obtain ⟨f1, f2, f3⟩ := h.free h2
        subst e1
        subst f1
        exact px_dzip h.calm e2 e3 f2 f3 (pl_cons (star_of h3 _) ((iha P X W sc bs h).x e h5) (pl_cons (star_of h4 _) ((ihb P X W sc bs h).x f h6) pl_nil)) (star_of h3 _) (hpl_of (by simp [h4]) _ _) rfl
    | _ => cases he
  | rais c fs as ih =>
    intro P X W sc bs h
    refine { s := fun st he => ?_ }
    cases st with
    | Raise x z p =>
      match x, z, he with
      | some (.Call (.Name y yp) (e :: es) [] q), none, he =>
        obtain ⟨h1, h2, h3, h4, h5⟩ := and5 (show (c == y && P.xc.excs.any (fun q => decide (q = (c, fs))) && glB sc y && !dbg y && (chk as P sc bs).l (e :: es)) = true from he)
        obtain rfl : c = y := beq_iff_eq.mp h1
        obtain ⟨q0, hq, e0⟩ := List.any_eq_true.mp h2
        obtain rfl : q0 = (c, fs) := of_decide_eq_true e0
        obtain ⟨⟨fI, Z⟩, hm⟩ := h.facts.excs _ hq
        have hst := l_star h5
        rw [List.all_cons] at hst
        exact ps_rais h.calm h.tk Z hm (by simp) (h.facts.top (List.ne_nil_of_mem hq)) h.room ((ih P X W sc bs h).l _ h5) (h.gl h3) (by simpa [dbg] using h4) (star_of (and2 hst).1 _) (hpl_of (and2 hst).2 _ _)
    | _ => cases he
  | tryS i cx cs q b ih =>
    intro P X W sc bs h
    refine { s := fun st he => ?_ }
    cases st with
    | Try body hds els fin p =>
      match hds, els, fin, he with
      | [.ExceptHandler (some (.Name y np)) (some n) [.Return (some e) rp] pos'], [], [], he =>
        obtain ⟨h0, h12⟩ := and2 (show (bs.isNone && P.N[i]? == some n && isLocal sc n && okName n && y == cx && glB sc y && !dbg y && P.frees.any (fun z => z == ("isinstance" : Str)) &&
          cs.all (fun p => P.xc.excs.any (fun r => decide (r = (p.1, p.2.1))) && P.xc.exms.any (fun r => decide (r = (p.1, cx, p.2.2)))) && P.xc.exms.any (fun r => r.2.1 == cx) && sxB n (fun x => glB sc x) q e && (chk b P sc bs).b body) = true from he)
        obtain ⟨h0, h11⟩ := and2 h0
        obtain ⟨h0, h10⟩ := and2 h0
        obtain ⟨h0, h9⟩ := and2 h0
        obtain ⟨a1, a2, a3, a4, a5, a6, a7, a8⟩ := and8 h0
        obtain rfl : y = cx := beq_iff_eq.mp a5
        obtain ⟨o1, o2⟩ := and2 (show (!dbg n && !(n == ("__classdict__" : Str))) = true from a4)
        have hbs : bs = none := Option.isNone_iff_eq_none.mp a1
        obtain ⟨k1, k2⟩ := h.stk hbs
        obtain ⟨r0, hr, e0⟩ := List.any_eq_true.mp h10
        have hmx : X.mg y = some (.ref (He.ga X.K y)) := by
          have := (h.facts.exms r0 hr).2
          rw [beq_iff_eq.mp e0] at this
          exact this
        have hmi : X.mg "isinstance" = none := by
          obtain ⟨z, hz, e'⟩ := List.any_eq_true.mp a8
          have := h.facts.frees z hz
          rw [beq_iff_eq.mp e'] at this
          exact this
        refine ps_tryS (file := X.prog.main.file) k1 k2 (by rw [h.N]; exact h.nd) (h.at a2) (by show X.env.scope.names.lookup n = _; rw [h.sc]; exact beq_iff_eq.mp a3) (by simpa [dbg] using o1) (by simpa using o2) (h.gl a6) (by simpa [dbg] using a7) hmx h.tk hmi (gl := fun x => glB sc x) (fun x hx => h.gl hx)
          (fun c ps bb hc => ?_) (fun W' pn xe tk po => (ih P (X.tr pn xe) W' sc bs (h.tr' tk po)).b body h12) h11
        have hmem : (c, ps, bb) ∈ cs := by
          have : ∀ {l : List (Str × List Str × Bool)}, l.lookup c = some (ps, bb) → (c, ps, bb) ∈ l := by
            intro l
            induction l with
            | nil => intro h; cases h
            | cons q l ih =>
              obtain ⟨q1, q2⟩ := q
              intro h
              rw [List.lookup_cons] at h
              cases z : c == q1 with
              | true => rw [z] at h; cases h; rw [beq_iff_eq.mp z]; exact List.mem_cons_self
              | false => rw [z] at h; exact List.mem_cons_of_mem _ (ih h)
          exact this hc
        obtain ⟨b1, b2⟩ := and2 (List.all_eq_true.mp h9 _ hmem)
        obtain ⟨q1, hq1, f1⟩ := List.any_eq_true.mp b1
        obtain ⟨q2, hq2, f2⟩ := List.any_eq_true.mp b2
        obtain rfl : q1 = (c, ps) := of_decide_eq_true f1
        obtain rfl : q2 = (c, y, bb) := of_decide_eq_true f2
        exact ⟨(h.facts.exms _ hq2).1, h.facts.excs _ hq1⟩
    | _ => cases he
  | isi t a ih =>
    intro P X W sc bs h
    refine { x := fun e he => ?_ }
    cases e with
    | Call fn es ks pos =>
      match fn, es, ks, he with
      | .Name y p, [e, .Name z q], [], he =>
        obtain ⟨h1, h2, h3, h4, h5⟩ := and5 (show (freeB P sc y "isinstance" && freeB P sc z (Str.ofString t) && (t == "list" || t == "int" || t == "str" || t == "tuple" || t == "dict") && notStar e && (chk a P sc bs).x e) = true from he)
        obtain ⟨e1, e2, e3⟩ := h.free h1
        obtain ⟨f1, f2, f3⟩ := h.free h2
        subst e1
        simp only [Bool.or_eq_true, beq_iff_eq] at h3
        rcases h3 with (((rfl | rfl) | rfl) | rfl) | rfl
        · subst f1
          exact px_isi e2 e3 f2 f3 boot_list (by decide) (by decide) (star_of h4 _) (hpl_of (es := [.Name _ q]) rfl _ _) ((ih P X W sc bs h).x e h5)
        · subst f1
          exact px_isi e2 e3 f2 f3 boot_int (by decide) (by decide) (star_of h4 _) (hpl_of (es := [.Name _ q]) rfl _ _) ((ih P X W sc bs h).x e h5)
        · subst f1
          exact px_isi e2 e3 f2 f3 boot_str (by decide) (by decide) (star_of h4 _) (hpl_of (es := [.Name _ q]) rfl _ _) ((ih P X W sc bs h).x e h5)
        · subst f1
          exact px_isi e2 e3 f2 f3 boot_tuple (by decide) (by decide) (star_of h4 _) (hpl_of (es := [.Name _ q]) rfl _ _) ((ih P X W sc bs h).x e h5)
        · subst f1
          exact px_isi e2 e3 f2 f3 boot_dict (by decide) (by decide) (star_of h4 _) (hpl_of (es := [.Name _ q]) rfl _ _) ((ih P X W sc bs h).x e h5)
    | _ => cases he
  | dup o a iho iha =>
    intro P X W sc bs h
    refine { x := fun e he => ?_ }
    cases e with
    | Call fn es ks pos =>
      match fn, es, ks, he with
      | .Attribute r m apos, [e], [], he =>
        obtain ⟨h1, h2, h3, h4, h5, h6⟩ := and6 (show (m == ("update" : Str) && lineB apos pos && plainBase r && notStar e && (chk o P sc bs).x r && (chk a P sc bs).x e) = true from he)
        have e1 := beq_iff_eq.mp h1
        subst e1
        have hst : ([e] : List Expr).all notStar = true := by simp [h4]
        exact px_upd ((iho P X W sc bs h).x r h5) ((iha P X W sc bs h).x e h6) (base_of h3) (few_of hst rfl _ _) h2 (star_of h4 _)
    | _ => cases he
  | revt a iha =>
    intro P X W sc bs h
    refine { x := fun e he => ?_ }
    revert he
    show (match e with
      | .Subscript l (.Slice none none (some (.UnaryOp .USub (.Constant (.int i) _ _) _)) _) _ => decide (i = 1) && (chk a P sc bs).x l
      | _ => false) = true → _
    split
    · intro he
      obtain ⟨h1, h2⟩ := and2 he
      cases of_decide_eq_true h1
      exact px_revT ((iha P X W sc bs h).x _ h2)
    · intro he; cases he
  | inT n a b iha ihb =>
    intro P X W sc bs h
    refine { x := fun e he => ?_, t := fun e he => ?_ }
    · cases e with
      | Compare l ps rs pos =>
        match ps, rs, he with
        | [p], [r], he =>
          obtain ⟨h1, h2, h3, h4⟩ := and4 (show (p == (if n then .NotIn else .In) && notSet r && (chk a P sc bs).x l && (chk b P sc bs).x r) = true from he)
          cases beq_iff_eq.mp h1
          exact px_cmp (or_inT (by have := h.units; omega)) op2_inT (mark_of h2) ((iha P X W sc bs h).x l h3) ((ihb P X W sc bs h).x r h4)
      | _ => cases he
    · cases e with
      | Compare l ps rs pos =>
        match ps, rs, he with
        | [p], [r], he =>
          obtain ⟨h1, h2, h3, h4⟩ := and4 (show (p == (if n then .NotIn else .In) && notSet r && (chk a P sc bs).x l && (chk b P sc bs).x r) = true from he)
          cases beq_iff_eq.mp h1
          exact pb_cmp (or_inT (by have := h.units; omega)) op2_inT (mark_of h2) ((iha P X W sc bs h).x l h3) ((ihb P X W sc bs h).x r h4)
      | _ => cases he
  | eqE a b iha ihb =>
    intro P X W sc bs h
    refine { x := fun e he => ?_, t := fun e he => ?_ }
    · cases e with
      | Compare l ps rs pos =>
        match ps, rs, he with
        | [p], [r], he =>
          obtain ⟨h1, h2, h3, h4⟩ := and4 (show (p == .Eq && notSet r && (chk a P sc bs).x l && (chk b P sc bs).x r) = true from he)
          cases beq_iff_eq.mp h1
          exact px_cmp (or_eqE (by have := h.units; omega)) op2_eqE (mark_of h2) ((iha P X W sc bs h).x l h3) ((ihb P X W sc bs h).x r h4)
      | _ => cases he
    · cases e with
      | Compare l ps rs pos =>
        match ps, rs, he with
        | [p], [r], he =>
          obtain ⟨h1, h2, h3, h4⟩ := and4 (show (p == .Eq && notSet r && (chk a P sc bs).x l && (chk b P sc bs).x r) = true from he)
          cases beq_iff_eq.mp h1
          exact pb_cmp (or_eqE (by have := h.units; omega)) op2_eqE (mark_of h2) ((iha P X W sc bs h).x l h3) ((ihb P X W sc bs h).x r h4)
      | _ => cases he
  | deq n a b iha ihb =>
    intro P X W sc bs h
    refine { x := fun e he => ?_ }
    cases e with
    | Compare l ps rs pos =>
      match ps, rs, he with
      | [p], [r], he =>
        obtain ⟨h1, h2, h3, h4⟩ := and4 (show (p == (if n then .NotEq else .Eq) && notSet r && (chk a P sc bs).x l && (chk b P sc bs).x r) = true from he)
        cases beq_iff_eq.mp h1
        exact px_cmp (or_deq (by have := h.units; omega)) op2_deq (mark_of h2) ((iha P X W sc bs h).x l h3) ((ihb P X W sc bs h).x r h4)
    | _ => cases he
  | maxl a ih =>
    intro P X W sc bs h
    refine { x := fun e he => ?_ }
    cases e with
    | Call fn es ks pos =>
      match fn, es, ks, he with
      | .Name y p, [e], [], he =>
        obtain ⟨h1, h2, h3⟩ := and3 (show (freeB P sc y "max" && notStar e && (chk a P sc bs).x e) = true from he)
        obtain ⟨e1, e2, e3⟩ := h.free h1
        subst e1
        exact px_blt (cr_max h.calm) opn_maxl e2 e3 boot_max (by decide) (by decide) (star_of h2 _) (hpl_of (es := []) rfl _ _) (pl_cons (star_of h2 _) ((ih P X W sc bs h).x e h3) pl_nil)
    | _ => cases he
  | und =>
    intro P X W sc bs h
    exact { s := fun st he => ps_und }
  | setDC i t own it tst k v ihi iht ihk ihv =>
    intro P X W sc bs h
    refine { s := fun st he => ?_ }
    cases st with
    | Assign ts e p =>
      match ts, e, he with
      | [.Name y py], .DictComp kx vx [⟨tg, iter, ifs, n⟩] scope epos, he =>
        obtain ⟨h0', h9'⟩ := and2 (show (bs.isNone && P.N[i]? == some y && swapB sc scope y py epos && decide (n = 0) && blkB P.N sc scope own && subB (slots t) own && notSet iter && (chk it P sc bs).i tg iter &&
          tgB P.N (relabelS scope sc) (some scope) t tg && tsB (chk tst P (relabelS scope sc) (some scope)) ifs && (chk k P (relabelS scope sc) (some scope)).x kx && (chk v P (relabelS scope sc) (some scope)).x vx) = true from he)
        obtain ⟨h0, h8'⟩ := and2 h0'
        obtain ⟨h00, h7'⟩ := and2 h0
        obtain ⟨h01, h6'⟩ := and2 h00
        obtain ⟨a1, a2, a3, h1, h2, h3, h4, h5⟩ := and8 h01
        cases of_decide_eq_true h1
        obtain ⟨ok, eo⟩ := blk_of h2
        obtain ⟨s1, s2, s3, s4⟩ := and4 (show (sc.kind == .function && isLocal sc y && py.line == epos.line && !(scope.names.any fun p => p.1 == y && (p.2 == .local || p.2 == .cell))) = true from a3)
        have hsl : ∀ i ∈ slots t, i ∈ (ownOf P.N own).map (·.2) := by rw [eo]; exact sub_of h3
        have hloc : X.env.scope.names.lookup y = some .local := by rw [h.sc]; exact beq_iff_eq.mp s2
        have q := ps_setDc' (X := X) (W := W) (m := true) (kx := kx) (vx := vx) (i := i) (spos := p) h.calm (by rw [h.N]; exact h.nd) (h.at a2) hloc (py := py) (pos := epos) (scope := scope) ?_ (own := ownOf P.N own) (by rw [h.N, h.sc]; exact ok) hsl (fold_of h4) ((ihi P X W sc bs h).i tg iter h5)
          (fun s H C cl fp => tg_of (h.blk s H scope C cl fp) h6') (fun s H C cl fp => PTX_of (iht P _ W0 _ _ (h.blk s H scope C cl fp)) h7') (fun s H C cl fp => (ihk P _ W0 _ _ (h.blk s H scope C cl fp)).x kx h8') (fun s H C cl fp => (ihv P _ W0 _ _ (h.blk s H scope C cl fp)).x vx h9')
        · rw [eo] at q
          exact q
        · exact congrArg pure ((swap_eq h.sc s1).trans a3)
    | _ => cases he
  | setC i m t own it tst el ihi iht ihe =>
    intro P X W sc bs h
    refine { s := fun st he => ?_ }
    cases st with
    | Assign ts e p =>
      match ts, e, he with
      | [.Name y py], .ListComp elt [⟨tg, iter, ifs, n⟩] scope epos, he =>
        obtain ⟨h0, h8'⟩ := and2 (show (bs.isNone && P.N[i]? == some y && swapB sc scope y py epos && decide (n = 0) && blkB P.N sc scope own && subB (slots t) own && notSet iter && (chk it P sc bs).i tg iter &&
          tgB P.N (relabelS scope sc) (some scope) t tg && tsB (chk tst P (relabelS scope sc) (some scope)) ifs && (chk el P (relabelS scope sc) (some scope)).x elt) = true from he)
        obtain ⟨h00, h7'⟩ := and2 h0
        obtain ⟨h01, h6'⟩ := and2 h00
        obtain ⟨a1, a2, a3, h1, h2, h3, h4, h5⟩ := and8 h01
        cases of_decide_eq_true h1
        obtain ⟨ok, eo⟩ := blk_of h2
        obtain ⟨s1, s2, s3, s4⟩ := and4 (show (sc.kind == .function && isLocal sc y && py.line == epos.line && !(scope.names.any fun p => p.1 == y && (p.2 == .local || p.2 == .cell))) = true from a3)
        have hsl : ∀ i ∈ slots t, i ∈ (ownOf P.N own).map (·.2) := by rw [eo]; exact sub_of h3
        have hloc : X.env.scope.names.lookup y = some .local := by rw [h.sc]; exact beq_iff_eq.mp s2
        have q := ps_setLc' (X := X) (W := W) (m := m) (elt := elt) (i := i) (spos := p) h.calm (by rw [h.N]; exact h.nd) (h.at a2) hloc (py := py) (pos := epos) (scope := scope) ?_ (own := ownOf P.N own) (by rw [h.N, h.sc]; exact ok) hsl (fold_of h4) ((ihi P X W sc bs h).i tg iter h5)
          (fun s H C cl fp => tg_of (h.blk s H scope C cl fp) h6') (fun s H C cl fp => PTX_of (iht P _ W0 _ _ (h.blk s H scope C cl fp)) h7') (fun s H C cl fp => (ihe P _ W0 _ _ (h.blk s H scope C cl fp)).x elt h8')
        · rw [eo] at q
          exact q
        · exact congrArg pure ((swap_eq h.sc s1).trans a3)
    | _ => cases he
end
end Co
namespace Co
open PySem PySem.Spec PyProof.Rows L2
/-! ### a whole program -/
theorem zip_lookup {α : Type} : ∀ {ps : List Str} {us : List α}, us.length = ps.length → ∀ n ∈ ps, ((ps.zip us).lookup n).isSome = true
  | [], _, _, n, h => by cases h
  | p :: ps, [], hl, _, _ => by simp at hl
  | p :: ps, u :: us, hl, n, h => by
    rw [List.zip_cons_cons, List.lookup_cons]
    by_cases e : n = p
    · subst e; simp
    · have : (n == p) = false := by simpa using e
      rw [this]
      exact zip_lookup (by simpa using hl) n (by simpa [e] using h)
theorem zip_filterMap {α : Type} : ∀ {ps : List Str} {us : List α}, ps.Nodup → us.length = ps.length → ps.filterMap (fun n => ((ps.zip us).lookup n).map (n, ·)) = ps.zip us := by
  have gen : ∀ (pre ps : List Str) (vs us : List α), (pre ++ ps).Nodup → vs.length = pre.length → us.length = ps.length → ps.filterMap (fun n => ((pre.zip vs ++ ps.zip us).lookup n).map (n, ·)) = ps.zip us := by
    intro pre ps
    induction ps generalizing pre with
    | nil => intro vs us _ _ _; rfl
    | cons p ps ih =>
      intro vs us nd h1 h2
      cases us with
      | nil => simp at h2
      | cons u us =>
        have hn : p ∉ pre := fun hm => by
          rw [List.nodup_append] at nd
          exact nd.2.2 p hm p List.mem_cons_self rfl
        have hlk : (pre.zip vs).lookup p = none := by
          rw [List.lookup_eq_none_iff]
          intro q hq
          have hm : q.1 ∈ pre := (List.of_mem_zip (show (q.1, q.2) ∈ pre.zip vs from hq)).1
          simp only [bne_iff_ne, ne_eq]
          exact fun e => hn (by rw [e]; exact hm)
        have e1 : ((pre.zip vs ++ (p :: ps).zip (u :: us)).lookup p) = some u := by
          rw [List.lookup_append, hlk, List.zip_cons_cons, List.lookup_cons]
          simp
        rw [List.filterMap_cons, e1]
        have ih' := ih (pre ++ [p]) (vs ++ [u]) us (by simpa using nd) (by simp [h1]) (by simpa using h2)
        have e2 : (pre ++ [p]).zip (vs ++ [u]) = pre.zip vs ++ [(p, u)] := by
          rw [List.zip_append h1.symm]
          rfl
        rw [e2, List.append_assoc] at ih'
        show (p, u) :: _ = (p, u) :: ps.zip us
        congr 1
  intro ps us nd hl
  exact gen [] ps [] us (by simpa using nd) rfl hl
/-- plain parameters -/
def plainArgs (p : Arguments) (ps : List Str) : Bool := p.posonlyargs.isEmpty && p.vararg.isNone && p.kwonlyargs.isEmpty && p.kwarg.isNone && decide (p.args.map (·.arg) = ps)
theorem bind_plain {x qual : Str} {params : Arguments} {body : List Stmt} {scope : Scope} {ps : List Str} (h : plainArgs params ps = true) (nd : ps.Nodup) (kV doc pm : Value) (an : Option Addr) (cdv ct : Value) (us : List Value) (hl : us.length = ps.length) :
    bindArgs (PySem.W.fnOf x qual params body scope .none kV doc pm an cdv ct) ⟨us, []⟩ = pure (ps.zip us) := by
  obtain ⟨po, ar, va, ko, kd, kw, df⟩ := params
  obtain ⟨h1, h2, h3, h4, h5⟩ := and5 h
  have e1 : po = [] := List.isEmpty_iff.mp h1
  have e2 : va = none := Option.isNone_iff_eq_none.mp h2
  have e3 : ko = [] := List.isEmpty_iff.mp h3
  have e4 : kw = none := Option.isNone_iff_eq_none.mp h4
  have e5 : ar.map (·.arg) = ps := of_decide_eq_true h5
  subst e1 e2 e3 e4 e5
  unfold bindArgs PySem.W.fnOf
  have m : ((ar.map (·.arg)).filter fun n => (((ar.map (·.arg)).zip us).lookup n).isNone) = [] := by
    rw [List.filter_eq_nil_iff]
    intro n hn
    have := zip_lookup hl n hn
    rw [Option.isNone_iff_eq_none]
    intro e
    rw [e] at this
    cases this
  have ln : ar.length = us.length := by simpa using hl.symm
  have z := zip_filterMap (us := us) nd hl
  have hs : seqItems? .none = pure none := rfl
  simp only [List.forIn_nil, pure_bind, List.map_nil, List.nil_append]
  simp only [hs, pure_bind, Option.getD_none, List.drop_nil, List.length_nil, Nat.sub_zero]
  have c1 : (decide (us.length > (ar.map (·.arg)).length) && (none : Option Arg).isNone) = false := by
    rw [hl]; simp
  have c2 : (ar.map (·.arg)).take ((ar.map (·.arg)).length) = ar.map (·.arg) := List.take_length
  have c3 : (ar.map (·.arg)).drop ((ar.map (·.arg)).length) = [] := List.drop_length
  have c4 : (#[] : Array Value).toList = [] := rfl
  simp only [c4, List.length_nil, List.drop_nil, Nat.sub_zero, Nat.zero_sub, c1, c2, c3, m, List.zip_nil_right, List.zip_nil_left, List.forIn_nil, pure_bind, List.isEmpty_nil, Bool.not_true, Bool.false_eq_true, if_false, List.append_nil, z]
/-- the def's function stands at f, its code object is cdv -/
def FnAt (K : Frag) (x qual : Str) (params : Arguments) (body : List Stmt) (scope : Scope) (f : Addr) (cdv : Value) : Prop := ∃ (oc : Value) (od : Option Addr) (dV kV doc pm : Value) (an : Option Addr) (ct : Value) (osl : Array (Option Value)),
  K.lookup f = some ⟨oc, od, .func (PySem.W.fnOf x qual params body scope dV kV doc pm an cdv ct), osl⟩
section
variable {P : Program} {w : World} {K : Frag} {mg : Str → Option Value} {base : Heap}
/-- a def keeps the promise of its body's meaning -/
theorem fn_okT {x qual : Str} {params : Arguments} {body : List Stmt} {scope : Scope} {f : Addr} {fd : FuncData} {N ps : List Str} {k : Nat} {b : MS}
    (F : FunD K x qual params body scope [] [] f fd) (Sc : FnScope N ps scope)
    (hbody : ∀ (cdv : Value), FnAt K x qual params body scope f cdv → ∀ (A : Around) (outer : List PySem.Env) (s : Shared) (H : Hp) (E : XK), Room k (A.deeper (envOfC qual scope s.heap.objs.size f cdv)) → A.guards = some [] →
      PSB (cxOf (L2.CX P w) P w K mg base N qual scope f cdv A outer s H E) (fun cls d _ H' => E cls d H') body b) :
    FnG P w K mg base (k + 1) f fd ps (spF K ps.length (callB ps.length N.length b)) := by
  obtain ⟨oc, od, dV, kV, doc, pm, an, cdv, ct, osl, rfl, lk, hcd, _, _⟩ := F.ex
  refine fn_ofG lk hcd Sc (fun vs H Q E h => h.1) fun A outer s H vs Q E hr hgd h => ⟨_, hbody cdv ⟨oc, od, dV, kV, doc, pm, an, ct, osl, lk⟩ A outer s H E hr hgd, ?_⟩
  obtain ⟨hl, g, t, ds, R, r, p⟩ := h
  have hd : ds.length = ps.length := by rw [r.length]; exact hl
  refine ⟨g, t, _, R, re_start (N := N) r, ?_⟩
  unfold callB at p
  rw [if_pos hd] at p
  have hb : ∀ (m : Co.R (Fl × Env)), Post K (fun cls d _ H' => E cls d H') g H [] (RD K) (match m with
    | .ok (.nx, _) s' => .ok .non (gcS t.next [.non] s')
    | .ok (.rt d, _) s' => .ok d (gcS t.next [d] s')
    | .ok (.ex c fs, _) s' => .exc c fs (gcS t.next (fs.map (·.2)) s')
    | _ => .bad) Q → PostS K (fun cls d _ H' => E cls d H') g H m { nx := fun _ H' => Q .non H', rt := Q } := by
    intro m p
    cases m with
    | ok fe s' =>
      obtain ⟨f, env⟩ := fe
      intro g' H' σ' st R' E'
      cases f with
      | nx =>
        obtain ⟨g'', st2, R2, r2⟩ := gc_ok (ds := [.non]) (vs := [.non]) st R' (.cons rfl .nil) R.dom
        exact p g'' H' .non st2 R2 rfl
      | rt d =>
        intro v rv
        obtain ⟨g'', st2, R2, r2⟩ := gc_ok (ds := [d]) (vs := [v]) st R' (.cons rv .nil) R.dom
        obtain ⟨v', r', e', h1, h2⟩ := r2
        cases e'
        exact p g'' H' v st2 R2 h1
      | bk => exact p.elim
      | ct => exact p.elim
      | ex c fs =>
        intro d xf
        cases fs with
        | nil =>
          obtain ⟨g'', st2, R2, r2⟩ := gc_ok (ds := []) (vs := []) st R' .nil R.dom
          exact p g'' H' d st2 R2 xf
        | cons f0 fs0 =>
          obtain ⟨dx, ws, h1, h2, h3, h4⟩ := xf
          obtain ⟨g'', st2, R2, r2⟩ := gc_ok st R' h4 R.dom
          exact p g'' H' d st2 R2 ⟨dx, ws, h1, h2, h3, r2⟩
    | exc c fs s' => exact p.elim
    | bad => exact p.elim
  exact hb _ p
end
theorem lookup_memK : ∀ {K : Frag} {a : Addr} {o : Obj}, K.lookup a = some o → (a, o) ∈ K
  | [], _, _, e => by cases e
  | (b, u) :: r, a, o, e => by
    rw [List.lookup_cons] at e
    by_cases h : (a == b) = true
    · rw [h] at e
      cases e
      rw [beq_iff_eq.mp h]
      exact List.mem_cons_self
    · simp only [h] at e
      exact List.mem_cons_of_mem _ (lookup_memK e)
/-- a def: its promise's name, the slots, the core body, where it stands -/
structure Df where
  fi : FnI
  N : List Str
  body : C
  d : He.DefD
def depOf (ds : List Df) (j : Nat) : Nat := match ds[j]? with
  | some d => d.fi.dep
  | none => 0
/-- the meaning of the j-th def -/
noncomputable def mean (ds : List Df) (G : Nat → D) (j : Nat) : List D → S → R D := match ds[j]? with
  | some d => callB d.fi.ps.length d.N.length (ev (fun m => if h : depOf ds m < depOf ds j then mean ds G m else fun _ _ => .bad) G d.body).s
  | none => fun _ _ => .bad
termination_by depOf ds j
/-- .. of those below k -/
noncomputable def meanB (ds : List Df) (G : Nat → D) (k : Nat) (m : Nat) : List D → S → R D := if depOf ds m < k then mean ds G m else fun _ _ => .bad
theorem mean_eq {ds : List Df} {G : Nat → D} {j : Nat} {d : Df} (h : ds[j]? = some d) : mean ds G j = callB d.fi.ps.length d.N.length (ev (meanB ds G d.fi.dep) G d.body).s := by
  have e : depOf ds j = d.fi.dep := by unfold depOf; rw [h]
  rw [mean, h]
  show callB _ _ (ev _ G d.body).s = _
  rw [e]
  rfl
theorem meanB_eq {ds : List Df} {G : Nat → D} {k m : Nat} (h : depOf ds m < k) : meanB ds G k m = mean ds G m := if_pos h
/-- what the check of a def knows -/
def piOf (fns : List FnI) (gls frees : List Str) (nats : List (Str × Str)) (xc : Xc) (d : Df) : Pi := ⟨d.N, fns, gls, frees, nats, d.fi.dep, xc, genF d.d.body, lamF d.d.body⟩
/-- what a def's text is asked -/
def okD (gls frees : List Str) (nats : List (Str × Str)) (xc : Xc) (fns : List FnI) (d : Df) : Bool :=
  d.d.dfl.isEmpty && d.d.kwd.isEmpty && plainArgs d.d.params d.fi.ps && decide d.N.Nodup && decide (d.N.take d.fi.ps.length = d.fi.ps) &&
  (d.d.scope.kind == .function && !d.d.scope.isCoroutine && !d.d.scope.isGenerator && d.fi.ps.all (fun x => locB d.d.scope x) && d.d.scope.names.all (fun y => !(y.2 == .free))) &&
  (match d.fi.kind with
    | .fn => decide (d.d.at_ = (d.fi.name, none))
    | .meth c => decide (d.d.at_ = (c, some d.fi.name))
    | .init c => decide (d.d.at_ = (c, some ("__init__" : Str)))) &&
  (chk d.body (piOf fns gls frees nats xc d) d.d.scope none).b d.d.body
/-- the facts about names -/
structure NFacts (gls frees : List Str) (nats : List (Str × Str)) (xc : Xc) (P : Program) (G : Nat → D) (K : Frag) (mg : Str → Option Value) : Prop where
  gls : ∀ k x, gls[k]? = some x → ∃ u v, mg x = some u ∧ RelV v u ∧ ∀ g H, RD K g H (G k) v
  frees : ∀ x ∈ frees, mg x = none
  nats : ∀ q ∈ nats, Cls K (He.ga K q.1) ∧ NoAttr K (He.ga K q.1) q.2
  excs : ∀ q ∈ xc.excs, (∃ fI, XcK K mg P.main.file (He.ga K q.1) fI q.2) ∧ mg q.1 = some (.ref (He.ga K q.1))
  exms : ∀ q ∈ xc.exms, PySem.W.exmOne K (.ref (He.ga K q.1)) (.ref (He.ga K q.2.1)) = some q.2.2 ∧ mg q.2.1 = some (.ref (He.ga K q.2.1))
  top : xc.excs ≠ [] → (P.main.scope.names.lookup ("super" : Str)).isSome = false
/-- the tables of code objects -/
structure TabsOk (ds : List Df) (K : Frag) (mg : Str → Option Value) (base : Heap) : Prop where
  tab : ∀ d ∈ ds, genF d.d.body = true → ∃ o t, K.lookup (He.fAd K d.d.at_) = some o ∧ tabAt K o = some t
  tabs : ∀ t ∈ tabsK K, GxR.TabB base mg t.c t.P
  tnd : ((tabsK K).map (·.P)).Nodup
def KindOk (K : Frag) (mg : Str → Option Value) (i : FnI) : Prop := match i.kind with
  | .fn => mg i.name = some (.ref (He.ga K i.name))
  | .meth c => Cls K (He.ga K c) ∧ Meth K (He.ga K c) i.name (He.ma K (He.ga K c) i.name)
  | .init c => Mk K (He.ga K c) (He.ma K (He.ga K c) "__init__") ∧ mg c = some (.ref (He.ga K c))
theorem FnScope.of {N ps : List Str} {sc : Scope} (h1 : N.Nodup) (h2 : N.take ps.length = ps) (h3 : (sc.kind == .function && !sc.isCoroutine && !sc.isGenerator && ps.all (fun x => locB sc x) && sc.names.all (fun y => !(y.2 == .free))) = true) : FnScope N ps sc := by
  obtain ⟨k1, k2, k3, k4, k5⟩ := and5 h3
  refine ⟨beq_iff_eq.mp k1, by simpa using k2, by simpa using k3, h1, h2, fun x hx => loc_of (List.all_eq_true.mp k4 x hx), fun y hy e => ?_⟩
  have := List.all_eq_true.mp k5 y hy
  rw [e] at this
  simp at this
section
variable {ds : List Df} {G : Nat → D} {gls frees : List Str} {nats : List (Str × Str)} {xc : Xc} {P : Program} {w : World} {K : Frag} {mg : Str → Option Value} {base : Heap}
theorem fn_binds {d : Df} {fd : FuncData} (hc : okD gls frees nats xc (ds.map (·.fi)) d = true)
    (FD : FunD K d.d.name d.d.qual d.d.params d.d.body d.d.scope (d.d.dvs K) (d.d.kws K) (He.fAd K d.d.at_) fd) (us : List Value) (hl : us.length = d.fi.ps.length) (s : Shared) : BindsTo s fd ⟨us, []⟩ (d.fi.ps.zip us) := by
  obtain ⟨c1, c2, c3, c4, c5, c6, c7, c8⟩ := and8 hc
  have e1 : d.d.dvs K = [] := by unfold He.DefD.dvs; rw [List.isEmpty_iff.mp c1]; rfl
  have e2 : d.d.kws K = [] := by unfold He.DefD.kws; rw [List.isEmpty_iff.mp c2]; rfl
  rw [e1, e2] at FD
  have nd : d.fi.ps.Nodup := by
    have := of_decide_eq_true c4
    rw [← of_decide_eq_true c5]
    exact this.sublist (List.take_sublist _ _)
  exact FD.bindsA (fun kV doc pm an cdv ct us hl => bind_plain c3 nd kV doc pm an cdv ct us hl) s us hl
/-- a def that is checked, where those that it calls are known -/
theorem fn_one {n : Nat} {j : Nat} {d : Df} {fd : FuncData} (hc : okD gls frees nats xc (ds.map (·.fi)) d = true) (nf : NFacts gls frees nats xc P G K mg) (tt : TabsOk ds K mg base) (hm0 : d ∈ ds)
    (ih : ∀ (j : Nat) (e : Df), ds[j]? = some e → e.fi.dep < d.fi.dep → FnFact P w K mg base e.fi (mean ds G j)) (hj : ds[j]? = some d)
    (FD : FunD K d.d.name d.d.qual d.d.params d.d.body d.d.scope (d.d.dvs K) (d.d.kws K) (He.fAd K d.d.at_) fd) :
    FnG P w K mg base (2 * d.fi.dep + 1 + 1) (He.fAd K d.d.at_) fd d.fi.ps (spF K d.fi.ps.length (mean ds G j)) ∧ (∀ us : List Value, us.length = d.fi.ps.length → ∀ s : Shared, BindsTo s fd ⟨us, []⟩ (d.fi.ps.zip us)) ∧ Binds K fd d.fi.ps [] := by
  obtain ⟨c1, c2, c3, c4, c5, c6, c7, c8⟩ := and8 hc
  have e1 : d.d.dvs K = [] := by unfold He.DefD.dvs; rw [List.isEmpty_iff.mp c1]; rfl
  have e2 : d.d.kws K = [] := by unfold He.DefD.kws; rw [List.isEmpty_iff.mp c2]; rfl
  rw [e1, e2] at FD
  have sc := FnScope.of (of_decide_eq_true c4) (of_decide_eq_true c5) c6
  have nd : d.fi.ps.Nodup := by
    have := of_decide_eq_true c4
    rw [← of_decide_eq_true c5]
    exact this.sublist (List.take_sublist _ _)
  have facts : Facts (piOf (ds.map (·.fi)) gls frees nats xc d) (meanB ds G d.fi.dep) G P w K mg base := {
    fns := fun m i hi hlt => by
      have hi : (ds.map (·.fi))[m]? = some i := hi
      have hlt : i.dep < d.fi.dep := hlt
      rw [List.getElem?_map] at hi
      obtain ⟨e, he, rfl⟩ := Option.map_eq_some_iff.mp hi
      have hdm : depOf ds m = e.fi.dep := by unfold depOf; rw [he]
      rw [meanB_eq (by rw [hdm]; exact hlt)]
      exact ih m e he hlt
    gls := nf.gls
    frees := nf.frees
    nats := nf.nats
    excs := nf.excs
    exms := nf.exms
    top := nf.top
    tabs := tt.tabs
    tnd := tt.tnd }
  refine ⟨?_, fun us hl s => FD.bindsA (fun kV doc pm an cdv ct us hl => bind_plain c3 nd kV doc pm an cdv ct us hl) s us hl, FD.bindsN fun kV doc pm an cdv ct us hl => bind_plain c3 nd kV doc pm an cdv ct us hl⟩
  rw [mean_eq hj]
  refine fn_okT FD sc fun cdv hat A outer s H E hr hgd => ?_
  refine (main (meanB ds G d.fi.dep) G d.body (piOf (ds.map (·.fi)) gls frees nats xc d) _ _ d.d.scope none ?_).b d.d.body c8
  refine { N := rfl, nd := sc.nd, sc := rfl, fn := fun _ _ => rfl, calm := rfl, gd := hgd, room := hr, stk := fun _ => ⟨rfl, rfl⟩, pass := fun _ => passes_of rfl, tk := takes_of rfl rfl rfl rfl, facts := facts, cd := fun hg => ?_ }
  obtain ⟨o, t, lk, et⟩ := tt.tab d hm0 hg
  obtain ⟨oc, od, dV, kV, doc, pm, an, ct, osl, lk2⟩ := hat
  rw [lk] at lk2
  cases lk2
  refine ⟨t, List.mem_filterMap.mpr ⟨(He.fAd K d.d.at_, _), lookup_memK lk, et⟩, ?_⟩
  have e2 : (if genF d.d.body then (tabOf K cdv).map fun p => (⟨p.1, p.2, (d.d.qual ++ ".<locals>.") ++ "<lambda>", lamF d.d.body⟩ : Tb) else none) = some t := et
  rw [if_pos (show genF d.d.body = true from hg)] at e2
  obtain ⟨p, ep, rfl⟩ := Option.map_eq_some_iff.mp e2
  refine ⟨?_, rfl, rfl⟩
  show cdv = .ref p.1
  unfold tabOf at ep
  split at ep
  · split at ep
    · split at ep
      · cases ep; rfl
      · cases ep
    · cases ep
  · cases ep
theorem fn_facts (hc : ∀ d ∈ ds, okD gls frees nats xc (ds.map (·.fi)) d = true) (nf : NFacts gls frees nats xc P G K mg) (tt : TabsOk ds K mg base) (hk : ∀ d ∈ ds, KindOk K mg d.fi)
    (hd : ∀ d ∈ ds, ∃ fd, FunD K d.d.name d.d.qual d.d.params d.d.body d.d.scope (d.d.dvs K) (d.d.kws K) (He.fAd K d.d.at_) fd) :
    ∀ (n : Nat) (j : Nat) (d : Df), ds[j]? = some d → d.fi.dep < n → FnFact P w K mg base d.fi (mean ds G j) := by
  intro n
  induction n with
  | zero => intro j d _ h; exact absurd h (Nat.not_lt_zero _)
  | succ n ih =>
    intro j d hj hn
    have hm : d ∈ ds := List.mem_of_getElem? hj
    obtain ⟨fd, FD⟩ := hd d hm
    obtain ⟨fg, _, fb⟩ := fn_one (P := P) (w := w) (base := base) (n := n) (hc d hm) nf tt hm (fun m e he hlt => ih m e he (by omega)) hj FD
    obtain ⟨c1, c2, c3, c4, c5, c6, c7, c8⟩ := and8 (hc d hm)
    refine ⟨⟨He.fAd K d.d.at_, fd, fg, fb, FD.kp, ?_⟩, fun xs s hl => ?_⟩
    · have k := hk d hm
      unfold KindOk at k
      cases hkd : d.fi.kind with
      | fn =>
        rw [hkd] at c7 k
        have e : d.d.at_ = (d.fi.name, none) := of_decide_eq_true c7
        rw [e]
        exact k
      | meth c =>
        rw [hkd] at c7 k
        have e : d.d.at_ = (c, some d.fi.name) := of_decide_eq_true c7
        rw [e]
        exact k
      | init c =>
        rw [hkd] at c7 k
        have e : d.d.at_ = (c, some ("__init__" : Str)) := of_decide_eq_true c7
        rw [e]
        exact k
    · rw [mean_eq hj]
      unfold callB
      rw [if_neg hl]
end
/-- no exception leaves where none is wished for -/
theorem cx_none {P : Program} {w : World} {H : Hp} {s s' : Shared} {e : Value} (h : L2.CX P w [] H s (fun _ _ _ => False) e s') : False := by
  obtain ⟨a, B, H', cls, d, _, _, _, _, _, _, _, z⟩ := h
  exact z
/-- the head's call (the proof follows law_callTs of HandS.EndTab), the promise asked where no repr is under way -/
theorem law_callG {P : Program} {w : World} {K : PySem.W.Frag} {mg mb : Str → Option Value} {k : Nat} {fa a : Addr} {cs : List (Addr × Addr)} {fd : FuncData} {x : Str} {sp : Sp} {s₁ : Shared} {vs : List Value} {ns : List Int}
    (KX : K.In s₁.heap) (hns : s₁.heap.Ns mainGlobals mg) (hb : s₁.heap.Ns builtinsNs mb) (hbb : ∀ x : Str, x ≠ "__name__" → mb x = bootBuiltins x) (hlim : s₁.heap.NoLimit) (hg : s₁.gens = #[])
    (hT : ∀ p ∈ cs, s₁.heap.get? p.2 = some { cls := .none, data := .fields #[] }) (nT : ∀ p ∈ cs, K.lookup p.2 = none) (C : ∀ p ∈ cs, PySem.W.CodeHd s₁.heap p.1 p.2)
    (hbm : ∃ (bm : Addr) (ob : Obj), mg "__builtins__" = some (.ref bm) ∧ bm ≠ builtinsNs ∧ s₁.heap.get? bm = some ob ∧ ob.cls = .type "module" ∧ ob.dict = some builtinsNs ∧ ob.data = .plain)
    (ha : s₁.heap.get? a = some { cls := .type "list", data := .seq vs.toArray }) (hi : IntsAre vs ns) (hl : ns.length ≤ sizeLine) (hr : Room k callerA)
    (F : ∀ base : Heap, K.In base → base.Ns mainGlobals mg → (∀ p ∈ cs, GxR.TabB base mg p.1 p.2) → FnG P w K mg base k fa fd [x] sp) (hbind : ∀ (s : Shared) (u : Value), BindsTo s fd ⟨[u], []⟩ [(x, u)])
    (hsp : ∀ H : Hp, (∀ p ∈ cs, H p.2 = some (.tbl #[])) → SqS K H a (ns.map V.int) → sp [.ref a] H (fun v _ => v = .bl true) fun _ _ _ => False) :
    codeAny (model P w) callerA (.call (.ref fa) ⟨[.ref a], []⟩) (fun r s' => r = .ok (.ret (.bool true)) ∧ OldK s₁.heap s'.heap ∧ s'.os = s₁.os ∧ AllBare s'.gens) s₁ := by
  have rv := vals_ints hi
  have lenV := hi.length
  have isT : ∀ b : Addr, b ∈ cs.map (·.2) → s₁.heap.get? b = some { cls := .none, data := .fields #[] } := fun b hb => by
    obtain ⟨p, hp, e⟩ := List.mem_map.mp hb
    rw [← e]
    exact hT p hp
  have aT : a ∉ cs.map (·.2) := fun z => by
    have q := isT a z
    rw [ha] at q
    have z' : Data.seq vs.toArray _ = Data.fields #[] := congrArg Obj.data (Option.some.inj q)
    cases z'
  have memT : ∀ p ∈ cs, p.2 ∈ cs.map (·.2) := fun p hp => List.mem_map.mpr ⟨p, hp, rfl⟩
  -- from an abstract heap in which nothing but the script and the tables may be tracked
  have core : ∀ H : Hp, (∀ p ∈ cs, H p.2 = some (.tbl #[])) → (∀ b, H b = none ∨ b ∈ cs.map (·.2) ∨ ∃ o xs, H b = some (.frz o (.lst xs))) → SqS K H a (ns.map V.int) → HOk P w H s₁.heap → (∀ b, H b ≠ none → b = a ∨ b ∈ cs.map (·.2)) → (H a ≠ none → K.lookup a = none) →
      codeAny (model P w) callerA (.call (.ref fa) ⟨[.ref a], []⟩) (fun r s' => r = .ok (.ret (.bool true)) ∧ OldK s₁.heap s'.heap ∧ s'.os = s₁.os ∧ AllBare s'.gens) s₁ := by
    intro H hH hO hS hok hA hK
    have base_of : ∀ {b : Addr} {o : Obj}, s₁.heap.get? b = some o → H b = none → (hidT s₁.heap H).get? b = some o := fun e n => hidT_get e n
    have noD : ∀ {b : Addr} {o : Obj}, s₁.heap.get? b = some o → (∀ vs n, o.data ≠ .seq vs n) → o.data ≠ .fields #[] → H b = none := fun {b o} e h1 h2 => by
      cases q : H b with
      | none => rfl
      | some u =>
        rcases hA b (by rw [q]; simp) with e' | e'
        · rw [e', ha] at e
          cases e
          exact (h1 _ _ rfl).elim
        · rw [isT b e'] at e
          cases e
          exact (h2 rfl).elim
    have noA : ∀ {b : Addr} {o : Obj} {es : Array DictEntry} {ep : Nat}, s₁.heap.get? b = some o → o.data = .dict es ep → H b = none := fun {b o es ep} e d => by
      refine noD e (fun vs n z => ?_) fun z => ?_
      · rw [d] at z
        cases z
      · rw [d] at z
        cases z
    have nsK : ∀ {b : Addr} {m : Str → Option Value}, s₁.heap.Ns b m → (hidT s₁.heap H).Ns b m := fun {b m} ⟨o, es, ep, e, d, r⟩ => ⟨o, es, ep, base_of e (noA e d), d, r⟩
    have hKb : K.In (hidT s₁.heap H) := fun b o e => base_of (KX b o e) (by
      cases q : H b with
      | none => rfl
      | some u =>
        rcases hA b (by rw [q]; simp) with e' | e'
        · rw [e'] at e q
          rw [hK (by rw [q]; simp)] at e
          cases e
        · obtain ⟨p, hp, ep⟩ := List.mem_map.mp e'
          rw [← ep, nT p hp] at e
          cases e)
    have hM : Mod K mg (hidT s₁.heap H) := ⟨hKb, nsK hns, ⟨mb, nsK hb, hbb⟩, let ⟨mc, h1, h2⟩ := hlim; ⟨mc, nsK h1, h2⟩⟩
    have TB : ∀ p ∈ cs, GxR.TabB (hidT s₁.heap H) mg p.1 p.2 := fun p hp => by
      have hTp := hT p hp
      refine ⟨?_, ?_, fun z => ?_⟩
      · obtain ⟨o, us, file, tf, flags, tg, inF, text, tt, e1, r1, r2, r3, r4, r5, r6, r7, r8, hne⟩ := C p hp
        refine ⟨o, us, file, tf, flags, tg, inF, text, tt, base_of e1 (noD e1 (fun vs n z => ?_) fun z => ?_), r1, r2, r3, r4, r5, r6, r7, r8, hne⟩
        · rw [r2] at z
          cases z
        · rw [r2] at z
          cases z
          simp at r3
      · obtain ⟨bm, ob, b1, b2, b3, b4, b5, b6⟩ := hbm
        have nG : bm ≠ mainGlobals := fun q => by
          obtain ⟨o, es, ep, e, hd, _⟩ := hns
          rw [q, e] at b3
          cases b3
          rw [hd] at b6
          cases b6
        have nP : bm ≠ p.2 := fun q => by
          rw [q, hTp] at b3
          cases b3
          cases b6
        refine ⟨bm, ob, b1, b2, nG, nP, base_of b3 (noD b3 (fun vs n z => ?_) fun z => ?_), b4, b5, b6⟩
        · rw [b6] at z
          cases z
        · rw [b6] at z
          cases z
      · obtain ⟨o, es, ep, e, hd, _⟩ := hns
        rw [z, hTp] at e
        cases e
        cases hd
    have e0 : Env0 P w K mg (hidT s₁.heap H) callerA [] s₁ H := ⟨rfl, hM, fun b o e => of_hidT e, Nat.le_of_eq (hidT_size _ _), trivial, fun b hb => absurd (show b ∈ ([] : List Addr) from hb) (by simp), hok, .of_eq hg⟩
    refine codeAny_mono ((F _ hKb (nsK hns) TB).run callerA [] s₁ H ⟨[.ref a], []⟩ [.ref a] [.ref a] _ _ hr rfl e0 (hbind s₁ (.ref a)) (.cons rfl .nil) (hsp H hH hS)) fun r s' h => ?_
    cases r with
    | error e => exact (cx_none h).elim
    | ok fl =>
      cases fl with
      | next => exact False.elim h
      | brk => exact False.elim h
      | cont => exact False.elim h
      | ret u =>
        obtain ⟨v, H', os, bare, un, hok', r', q⟩ := h
        have q' : v = .bl true := q
        subst q'
        obtain rfl : u = Value.bool true := r'
        have key : ∀ b o, b ∉ cs.map (·.2) → s₁.heap.get? b = some o → s'.heap.get? b = some o := fun b o nb e => by
          cases q : H b with
          | none => exact un.keep b o e q (by intro z; exact absurd (show b ∈ ([] : List Addr) from z) (by simp)) (by simp)
          | some u =>
            rcases hO b with z | z | ⟨ob, xs, z⟩
            · rw [q] at z; cases z
            · exact absurd z nb
            · have z2 := un.frzs b ob _ z
              obtain ⟨e1, _⟩ := hok b _ z
              obtain ⟨e2, _⟩ := hok' b _ z2
              rw [e] at e1; cases e1
              exact e2
        have grown : ∀ p ∈ cs, ∃ more : Array Value, s'.heap.get? p.2 = some { cls := .none, data := .fields more } := fun p hp => by
          obtain ⟨more, z⟩ := un.tbls p.2 #[] (hH p hp)
          exact ⟨_, hok' p.2 _ z⟩
        refine ⟨rfl, ⟨fun b o e => ?_, fun b o e => ?_⟩, os, bare⟩
        · by_cases hb : b ∈ cs.map (·.2)
          · obtain ⟨p, hp, ep⟩ := List.mem_map.mp hb
            obtain ⟨more, hm⟩ := grown p hp
            rw [← ep] at e ⊢
            rw [hT p hp] at e
            cases e
            exact .inr (.inl ⟨((C p hp).tab (hT p hp)).isCodeTable, rfl, #[], more, rfl, by rw [Array.empty_append]; exact hm⟩)
          · exact .inl (key b o hb e)
        · by_cases hb : b ∈ cs.map (·.2)
          · obtain ⟨p, hp, ep⟩ := List.mem_map.mp hb
            obtain ⟨more, hm⟩ := grown p hp
            rw [← ep]
            exact ⟨_, hm⟩
          · exact ⟨o, key b o hb e⟩
  cases hk : K.lookup a with
  | some o =>
    have e := KX a o hk
    rw [ha] at e
    cases e
    refine core (fun b => if b ∈ cs.map (·.2) then some (.tbl #[]) else none) (fun p hp => if_pos (memT p hp)) (fun b => ?_) (.inr ⟨_, vs.toArray, _, hk, rfl, rfl, rfl, by rw [List.size_toArray, lenV]; exact hl, by simpa using rv⟩) (fun b u z => ?_) (fun b z => ?_) fun z => absurd (show (if a ∈ cs.map (·.2) then some (HO.tbl #[]) else none) = none from if_neg aT) z
    · by_cases hb : b ∈ cs.map (·.2)
      · exact .inr (.inl hb)
      · exact .inl (if_neg hb)
    · by_cases hb : b ∈ cs.map (·.2)
      · have z' := (if_pos hb).symm.trans z
        cases z'
        exact isT b hb
      · have z' := (if_neg hb).symm.trans z
        cases z'
    · by_cases hb : b ∈ cs.map (·.2)
      · exact .inr hb
      · exact absurd (if_neg hb) z
  | none =>
    refine core (fun b => if b = a then some (.frz { cls := .type "list", data := .seq vs.toArray } (.lst (ns.map V.int))) else if b ∈ cs.map (·.2) then some (.tbl #[]) else none) (fun p hp => (if_neg (show ¬ p.2 = a from fun z => aT (by rw [← z]; exact memT p hp))).trans (if_pos (memT p hp))) (fun b => ?_)
      (.inl ⟨{ cls := .type "list", data := .seq vs.toArray }, if_pos rfl⟩) (fun b u z => ?_) (fun b z => ?_) fun _ => hk
    · by_cases hb : b = a
      · exact .inr (.inr ⟨_, _, if_pos hb⟩)
      · by_cases hb2 : b ∈ cs.map (·.2)
        · exact .inr (.inl hb2)
        · exact .inl ((if_neg hb).trans (if_neg hb2))
    · by_cases hb : b = a
      · have z' := (if_pos hb).symm.trans z
        cases z'
        rw [hb]
        exact ⟨ha, by rw [List.length_map]; exact hl, vs, _, rv, ha⟩
      · have z1 := (if_neg hb).symm.trans z
        by_cases hb2 : b ∈ cs.map (·.2)
        · have z' := (if_pos hb2).symm.trans z1
          cases z'
          exact isT b hb2
        · have z' := (if_neg hb2).symm.trans z1
          cases z'
    · by_cases hb : b = a
      · exact .inl hb
      · by_cases hb2 : b ∈ cs.map (·.2)
        · exact .inr hb2
        · exact absurd ((if_neg hb).trans (if_neg hb2)) z
/-- the empty abstract heap, the script alone -/
def S0 : S := ⟨0, fun _ => none⟩
theorem rel0 {K : Frag} {H : Hp} (h : ∀ t ∈ tabsK K, H t.P = some (.tbl #[])) : Rel K ⟨fun _ => none, fun _ => False, fun _ => False⟩ S0 H :=
  ⟨fun _ _ e => (nomatch e), fun _ _ e => (nomatch e), fun _ _ _ _ _ e => (nomatch e), fun _ h => h.elim, fun _ h => h.elim, fun t ht => ⟨⟨#[], h t ht, True.intro, fun pos _ cv hc => by cases hc⟩, fun z => z, fun z => z⟩⟩
theorem rds_ints {K : Frag} {g : Gh} {H : Hp} (ns : List Int) : RDs K g H (ns.map D.int) (ns.map V.int) := rds_map fun _ _ => rfl
/-- what the heap tells of the tables: they are empty, not in K -/
structure TabsIn (ds : List Df) (K : Frag) (h : Heap) : Prop where
  tab : ∀ d ∈ ds, genF d.d.body = true → ∃ o t, K.lookup (He.fAd K d.d.at_) = some o ∧ tabAt K o = some t
  hd : ∀ t ∈ tabsK K, PySem.W.codeHdIn K t.c t.P = true
  out : ∀ t ∈ tabsK K, K.lookup t.P = none
  empty : ∀ t ∈ tabsK K, h.get? t.P = some { cls := .none, data := .fields #[] }
  tnd : ((tabsK K).map (·.P)).Nodup
theorem walkG {l : PySem.W.OpenLaw} {n : Nat} {q : Program} {loose : List Str} {XP : (Str → Option Value) → Heap → Prop} {d0 : DefRec} {ds : List Df} {G : Nat → D} {gls frees : List Str} {nats : List (Str × Str)} {xc : Xc} {Hk : PySem.W.Hook} {Sy : PySem.W.Frag → Prop} {j : Nat} {d : Df}
    (hsy : ∀ w h, Hk.says w h → ∃ K : PySem.W.Frag, K.In h ∧ Sy K ∧ TabsIn ds K h)
    (hn : l.most = some n) (hn2 : n ≤ sizeLine) (hdf : d0.params.defaults = []) (hj : ds[j]? = some d) (hr : Room (2 * d.fi.dep + 2) callerA) (hnm : d0.name = d.fi.name) (hk : d.fi.kind = .fn) (hps : d.fi.ps = [("_law_script" : Str)])
    (hc : ∀ d ∈ ds, okD gls frees nats xc (ds.map (·.fi)) d = true)
    (hF : ∀ (K : PySem.W.Frag) (mg : Str → Option Value) (h : Heap), K.In h → h.Ns mainGlobals mg → Sy K → NFacts gls frees nats xc l.prog G K mg ∧ (∀ d ∈ ds, KindOk K mg d.fi) ∧
      ∀ d ∈ ds, ∃ fd, FunD K d.d.name d.d.qual d.d.params d.d.body d.d.scope (d.d.dvs K) (d.d.kws K) (He.fAd K d.d.at_) fd)
    (hlaw : ∀ ns : List Int, ns.length ≤ n → ∃ s', mean ds G j [.sc (ns.map .int)] S0 = .ok (.bl true) s') :
    PySem.W.WalkO q loose XP Hk.says l.row.toRowW d0 [] (fun f vs => PySem.call f vs) := by
  refine Att.attach_call hn hdf fun w s₀ s₁ mg mb fa' o pm cd doc a vs ns G0 Y ho hd hcd hmg hobj hints hlen hg => ?_
  obtain ⟨K, KX, Y, TI⟩ := hsy _ _ Y
  obtain ⟨nf, hkk, hfd⟩ := hF K mg _ KX G0.T.g Y
  have hm : d ∈ ds := List.mem_of_getElem? hj
  obtain ⟨fd, FD⟩ := hfd d hm
  have one : ∀ base : Heap, (∀ t ∈ tabsK K, GxR.TabB base mg t.c t.P) → _ := fun base tb => fn_one (P := l.prog) (w := w) (base := base) (n := d.fi.dep) (hc d hm) nf ⟨TI.tab, tb, TI.tnd⟩ hm (fun m e he hlt => fn_facts hc nf ⟨TI.tab, tb, TI.tnd⟩ hkk hfd d.fi.dep m e he hlt) hj FD
  have efa : He.fAd K d.d.at_ = fa' := by
    obtain ⟨c1, c2, c3, c4, c5, c6, c7, c8⟩ := and8 (hc d hm)
    rw [hk] at c7
    have e : d.d.at_ = (d.fi.name, none) := of_decide_eq_true c7
    have k := hkk d hm
    unfold KindOk at k
    rw [hk] at k
    rw [hnm] at hmg
    rw [e]
    have k2 : mg d.fi.name = some (.ref (He.ga K d.fi.name)) := k
    rw [hmg] at k2
    cases k2
    rfl
  have FD1 : ∀ (s : Shared) (u : Value), BindsTo s fd ⟨[u], []⟩ [(("_law_script" : Str), u)] := fun s u => by
    have := fn_binds (hc d hm) FD [u] (by rw [hps]; rfl) s
    rw [hps] at this
    exact this
  refine law_callG (cs := (tabsK K).map fun t => (t.c, t.P)) (x := "_law_script") (fd := fd) KX G0.T.g G0.T.b G0.T.builtins G0.T.nolimit hg (fun p hp => ?_) (fun p hp => ?_) (fun p hp => ?_) G0.T.bmain hobj hints (Nat.le_trans hlen hn2) hr (sp := spF K d.fi.ps.length (mean ds G j)) (fun base _ _ tb => ?_) (fun s u => FD1 s u) fun H hT hS => ?_
  · obtain ⟨t, ht, rfl⟩ := List.mem_map.mp hp
    exact TI.empty t ht
  · obtain ⟨t, ht, rfl⟩ := List.mem_map.mp hp
    exact TI.out t ht
  · obtain ⟨t, ht, rfl⟩ := List.mem_map.mp hp
    exact PySem.W.codeHd_of_K KX (TI.hd t ht)
  · have := (one base fun t ht => tb _ (List.mem_map.mpr ⟨t, ht, rfl⟩)).1
    rw [efa, hps] at this
    rw [hps]
    exact this
  · obtain ⟨s', hs⟩ := hlaw ns hlen
    refine ⟨by rw [hps]; rfl, _, S0, [.sc (ns.map .int)], rel0 (fun t ht => hT _ (List.mem_map.mpr ⟨t, ht, rfl⟩)), .cons ⟨a, _, rfl, hS, rds_ints ns⟩ .nil, ?_⟩
    rw [hs]
    exact fun g' H' b st R q => q
end Co
namespace Co
open PySem PySem.Spec PyProof.Rows L2
/-! ### a head's facts about exception classes -/
def isNone : Value → Bool
  | .none => true
  | _ => false
open PySem.W PySem.HandSPX
def oexB (K : Frag) (C : Addr) : Bool := match K.lookup C with
  | some ⟨.type "type", _, .cls cd, sl⟩ => (match cd.mro, sl.toList with
    | .ref C' :: bm, [_, _, _, _, some (.builtin n), _] => C' == C && (n == "ValueError.__new__") && (!cd.hasDel && (cd.hasDict && refsVE bm))
    | _, _ => false)
  | _ => false
def strAt (file : Str) : Option Value → Bool
  | some (.str f _) => f == file
  | _ => false
def fileB (K : Frag) (file : Str) (cda : Addr) : Bool := match K.lookup cda with
  | some ⟨_, _, .fields vs, _⟩ => strAt file vs[2]?
  | _ => false
def clsB (K : Frag) (C cc : Addr) : Bool := match K.lookup cc with
  | some ⟨_, _, .cell (some (.ref C')), _⟩ => C' == C
  | _ => false
def fnB (K : Frag) (file : Str) (fI C : Addr) (ps : List Str) : Bool := match K.lookup fI with
  | some ⟨_, _, .func fd, _⟩ => (match fd.body, fd.closure, fd.code with
    | .stmts body, [(n, cc)], .ref cda => n == ("__class__" : Str) && (codeIn K (.ref cda) fd.qualname && (initB ps body && (scopeB ps fd.scope && (argsB ps fd.params && (fd.globals == mainGlobals && (fd.builtins == builtinsNs && (isNone fd.defaults &&
        (fileB K file cda && clsB K C cc))))))))
    | _, _, _ => false)
  | _ => false
def xcB (file : Str) (K : Frag) (C fI : Addr) (ps : List Str) : Bool :=
  oexB K C && (He.eqO (findIn K (.ref C) "__setattr__") (some (some (.builtin "object.__setattr__"))) && (decide (subIn K (.ref C) (.type "BaseException") = some true) && (decide (typeIn K (.ref C) = some (.type "type")) && (keepIn K (.ref C) && (L2.xfB K C &&
    (ps.all (fun p => He.eqO (findIn K (.ref C) p) (some none)) && (He.eqO (findIn K (.ref C) "__init__") (some (some (.ref fI))) && (decide (typeIn K (.ref fI) = some (.type "function")) && (He.eqO (ks_superIn K C C "__init__") (some (some (.builtin "ValueError.__init__"))) &&
      (decide (subIn K (.ref C) (.type "ValueError") = some true) && (He.eqO (nsIn K cStatics "thirdparty.any") (some none) && (He.eqO (findIn K (.ref C) "__class__") (some (some (.builtin "object.__class__"))) && (decide (mroIn K C (.type "object") = some true) &&
        (He.eqO (specialIn K (.builtin "object.__class__") "__get__") (some (some (.builtin "getset_descriptor.__get__"))) && (decide (takesIn K (.builtin "object.__class__") = some true) && (decide ((("self" : Str) :: ps).Nodup) && (!ps.isEmpty && (decide (ps.length ≤ 9) && fnB K file fI C ps))))))))))))))))))
/-- all classes of a law -/
def xcAll (file : Str) (xc : Xc) (K : Frag) : Bool := xc.excs.all (fun q => xcB file K (He.ga K q.1) (He.ma K (He.ga K q.1) "__init__") q.2) && xc.exms.all (fun q => decide (exmOne K (.ref (He.ga K q.1)) (.ref (He.ga K q.2.1)) = some q.2.2))
/-! ### the Hook -/
def asX (g : Addr → Option Obj) : Nat → List Addr
  | 0 => [mainGlobals, cStatics]
  | n + 1 => He.growD g (asX g n)
/-- what is asked of the tables: the defs', empty, each once -/
def tabOne (g : Addr → Option Obj) (K : Frag) (t : Tb) : Bool := PySem.W.codeHdIn K t.c t.P && (match g t.P with
  | some o => He.emptyTab o
  | none => false)
def tabB (g : Addr → Option Obj) (fn : List He.DefD) (K : Frag) : Bool := (fn.all fun d => !genF d.body || (match K.lookup (He.fAd K d.at_) with
  | some o => (tabAt K o).isSome
  | none => false)) && ((tabsK K).all (tabOne g K) && decide ((tabsK K).map (·.P)).Nodup)
/-- the facts -/
structure TabsX (fn : List He.DefD) (K : Frag) (h : Heap) : Prop where
  tab : ∀ d ∈ fn, genF d.body = true → ∃ o t, K.lookup (He.fAd K d.at_) = some o ∧ tabAt K o = some t
  hd : ∀ t ∈ tabsK K, PySem.W.codeHdIn K t.c t.P = true
  out : ∀ t ∈ tabsK K, K.lookup t.P = none
  empty : ∀ t ∈ tabsK K, h.get? t.P = some { cls := .none, data := .fields #[] }
  tnd : ((tabsK K).map (·.P)).Nodup
theorem TabsX.of {ds : List Df} {K : Frag} {h : Heap} (x : TabsX (ds.map (·.d)) K h) : TabsIn ds K h :=
  ⟨fun d hd hg => x.tab d.d (List.mem_map.mpr ⟨d, hd, rfl⟩) hg, x.hd, x.out, x.empty, x.tnd⟩
theorem tabB_ok {h : Heap} {as : List Addr} {fn : List He.DefD} (e : tabB h.get? fn (He.frT h.get? as) = true) : TabsX fn (He.frT h.get? as) h := by
  obtain ⟨e1, e2⟩ := Bool.and_eq_true_iff.mp e
  obtain ⟨e3, e4⟩ := Bool.and_eq_true_iff.mp e2
  have key : ∀ t ∈ tabsK (He.frT h.get? as), PySem.W.codeHdIn (He.frT h.get? as) t.c t.P = true ∧ ∃ o, h.get? t.P = some o ∧ He.emptyTab o = true := fun t ht => by
    obtain ⟨h3, h4⟩ := Bool.and_eq_true_iff.mp (List.all_eq_true.mp e3 t ht)
    refine ⟨h3, ?_⟩
    cases q : h.get? t.P with
    | none => rw [q] at h4; cases h4
    | some o => rw [q] at h4; exact ⟨o, rfl, h4⟩
  refine ⟨fun d hd hg => ?_, fun t ht => (key t ht).1, fun t ht => ?_, fun t ht => ?_, of_decide_eq_true e4⟩
  · have q := List.all_eq_true.mp e1 d hd
    rw [hg] at q
    cases lk : (He.frT h.get? as).lookup (He.fAd (He.frT h.get? as) d.at_) with
    | none => rw [lk] at q; cases q
    | some o =>
      rw [lk] at q
      obtain ⟨t, et⟩ := Option.isSome_iff_exists.mp (show (tabAt (He.frT h.get? as) o).isSome = true from q)
      exact ⟨o, t, rfl, et⟩
  · obtain ⟨_, o, q, z⟩ := key t ht
    exact He.frT_none q z
  · obtain ⟨_, o, q, z⟩ := key t ht
    rw [q, He.emptyTab_eq z]
def obsX (n : Nat) (fa : List He.Fa) (fn : List He.DefD) (xf : Frag → Bool) (g : Addr → Option Obj) : He.AlD × Bool := (He.obsD fa fn (He.frT g (asX g n)), xf (He.frT g (asX g n)) && tabB g fn (He.frT g (asX g n)))
def SaysX (fa : List He.Fa) (fn : List He.DefD) (xf : Frag → Bool) (K : Frag) : Prop := He.SaysD fa fn K ∧ xf K = true
def hookX (n : Nat) (fa : List He.Fa) (fn : List He.DefD) (xf : Frag → Bool) : PySem.W.Hook where
  α := He.AlD × Bool
  obs := fun s => obsX n fa fn xf s.heap.get?
  val := fun _ => (He.valD fn, true)
  says := fun _ h => ∃ K : PySem.W.Frag, K.In h ∧ SaysX fa fn xf K ∧ TabsX fn K h
  of := fun _ _ e => ⟨_, He.frT_in, ⟨congrArg Prod.fst e, (Bool.and_eq_true_iff.mp (congrArg Prod.snd e)).1⟩, tabB_ok (Bool.and_eq_true_iff.mp (congrArg Prod.snd e)).2⟩
  keeps := fun _ _ _ ⟨K, hK, c, t⟩ k => ⟨K, PySem.W.Frag.In.keeps hK k, c, ⟨t.tab, t.hd, t.out, fun u hu => k _ _ (t.empty u hu), t.tnd⟩⟩
theorem obsX_eq {n : Nat} {fa : List He.Fa} {fn : List He.DefD} {xf : Frag → Bool} {g : Addr → Option Obj} {s : Shared} (h : ∀ a, g a = s.heap.get? a) : obsX n fa fn xf g = (hookX n fa fn xf).obs s := by
  have e : g = s.heap.get? := funext h
  rw [e] <;> rfl
end Co
/-! constants of the module that are tuples of texts -/
namespace Co
open PySem PySem.Spec PyProof.Rows L2 PySem.W
def strsB : List Value → List Str → Bool
  | [], [] => true
  | .str y _ :: vs, z :: zs => decide (y = z) && strsB vs zs
  | _, _ => false
def gtB (K : Frag) (q : Str × List Str) : Bool := match nsIn K mainGlobals q.1 with
  | some (some (.ref p)) => (match K.lookup p with
    | some o => decide (o.cls = .type "tuple") && o.dict.isNone && (match o.data with
      | .seq its n => decide (its.size < 64) && strsB its.toList q.2
      | _ => false)
    | none => false)
  | _ => false
def allB (file : Str) (xc : Xc) (tu : List (Str × List Str)) (K : Frag) : Bool := xcAll file xc K && tu.all (gtB K)
theorem allB_1 {file : Str} {xc : Xc} {tu : List (Str × List Str)} {K : Frag} (h : allB file xc tu K = true) : xcAll file xc K = true := (Bool.and_eq_true_iff.mp h).1
end Co
namespace Co
open PySem L2
/-! ### the plain layer: what a result brings -/
abbrev XP := Str → List (Str × D) → S → Prop
def wp {α : Type} (r : R α) (Q : α → S → Prop) (E : XP) : Prop := match r with
  | .ok a s => Q a s
  | .exc c fs s => E c fs s
  | .bad => False
section
variable {α β : Type} {Q : α → S → Prop} {E : XP}
theorem wp_ok (a : α) (s : S) : wp (.ok a s) Q E = Q a s := rfl
theorem wp_bd {r : R β} {f : β → S → R α} : wp (bd r f) Q E = wp r (fun b s => wp (f b s) Q E) E := by cases r <;> rfl
theorem wp_ite {c : Prop} [Decidable c] {r1 r2 : R α} : wp (if c then r1 else r2) Q E = if c then wp r1 Q E else wp r2 Q E := by split <;> rfl
theorem wp_get {r : R α} (h : wp r Q fun _ _ _ => False) : ∃ a s, r = .ok a s ∧ Q a s := by
  cases r with
  | ok a s => exact ⟨a, s, rfl, h⟩
  | exc c fs s => exact h.elim
  | bad => exact h.elim
end
section
variable {Q : D → S → Prop} {QB : Bool → S → Prop} {QL : List D → S → Prop} {QI : Itm → S → Prop} {E : XP} {env : Env} {s : S}
theorem wp_lit {d : D} : wp (litM d env s) Q E = Q d s := rfl
theorem wp_op2 {f : D → D → S → R D} {ma mb : ME D} : wp (op2M f ma mb env s) Q E = wp (ma env s) (fun x s1 => wp (mb env s1) (fun y s2 => wp (f x y s2) Q E) E) E := by
  unfold op2M
  simp only [wp_bd]
theorem wp_op1 {f : D → S → R D} {ma : ME D} : wp (op1M f ma env s) Q E = wp (ma env s) (fun x s1 => wp (f x s1) Q E) E := by
  unfold op1M
  simp only [wp_bd]
theorem wp_nil : wp (nilM env s) QL E = QL [] s := rfl
theorem wp_cons {m : ME D} {ms : ME (List D)} : wp (consM m ms env s) QL E = wp (m env s) (fun d s1 => wp (ms env s1) (fun ds s2 => QL (d :: ds) s2) E) E := by
  unfold consM
  simp only [wp_bd, wp_ok]
theorem wp_arg {f : List D → S → R D} {ms : ME (List D)} : wp (argM f ms env s) Q E = wp (ms env s) (fun ds s1 => wp (f ds s1) Q E) E := by
  unfold argM
  simp only [wp_bd]
theorem wp_bool {m : ME D} : wp (boolM m env s) QB E = wp (m env s) (fun x s1 => match x with
    | .bl k => QB k s1
    | _ => False) E := by
  unfold boolM
  rw [wp_bd]
  congr 1
  funext x s1
  cases x <;> rfl
theorem wp_tru {m : ME D} : wp (truM m env s) QB E = wp (m env s) (fun x s1 => match truD x s1 with
    | some k => QB k s1
    | none => False) E := by
  unfold truM
  rw [wp_bd]
  congr 1
  funext x s1
  cases truD x s1 <;> rfl
theorem wp_notM {m : ME Bool} : wp (notM m env s) QB E = wp (m env s) (fun k s1 => QB (!k) s1) E := by
  unfold notM
  rw [wp_bd]
  rfl
theorem wp_andM {m n : ME Bool} : wp (andM m n env s) QB E = wp (m env s) (fun k s1 => if k then wp (n env s1) QB E else QB false s1) E := by
  unfold andM
  rw [wp_bd]
  congr 1
  funext k s1
  cases k <;> rfl
theorem wp_orM {m n : ME Bool} : wp (orM m n env s) QB E = wp (m env s) (fun k s1 => if k then QB true s1 else wp (n env s1) QB E) E := by
  unfold orM
  rw [wp_bd]
  congr 1
  funext k s1
  cases k <;> rfl
theorem wp_ifM {c : ME Bool} {m n : ME D} : wp (ifM c m n env s) Q E = wp (c env s) (fun k s1 => if k then wp (m env s1) Q E else wp (n env s1) Q E) E := by
  unfold ifM
  rw [wp_bd]
  congr 1
  funext k s1
  cases k <;> rfl
theorem wp_mth {c : D → S → Bool} {f : D → List D → S → R D} {mo : ME D} {mes : ME (List D)} : wp (mthM c f mo mes env s) Q E = wp (mo env s) (fun x s1 => if c x s1 = true then wp (mes env s1) (fun ds s2 => wp (f x ds s2) Q E) E else False) E := by
  unfold mthM
  rw [wp_bd]
  congr 1
  funext x s1
  rw [wp_ite, wp_bd]
  rfl
end
/-! ### statements -/
abbrev QS := Fl → Env → S → Prop
def wps (r : R (Fl × Env)) (Q : QS) : Prop := match r with
  | .ok (f, env) s => Q f env s
  | _ => False
section
variable {Q : QS} {env : Env} {s : S}
theorem wps_ok {f : Fl} : wps (.ok (f, env) s) Q = Q f env s := rfl
theorem wps_bs {α : Type} {r : R α} {f : α → S → R (Fl × Env)} : wps (bs r env f) Q = wp r (fun a s => wps (f a s) Q) (fun c fs s => Q (.ex c fs) env s) := by cases r <;> rfl
theorem wps_seq {m n : MS} : wps (seqM m n env s) Q = wps (m env s) (fun f env1 s1 => match f with
    | .nx => wps (n env1 s1) Q
    | f => Q f env1 s1) := by
  unfold seqM
  cases m env s with
  | ok fe s1 =>
    obtain ⟨f, env1⟩ := fe
    cases f <;> rfl
  | exc c fs s1 => rfl
  | bad => rfl
theorem wps_nx : wps (nxM env s) Q = Q .nx env s := rfl
theorem wps_fl {f : Fl} : wps (flM f env s) Q = Q f env s := rfl
theorem wps_expr {m : ME D} : wps (exprM m env s) Q = wp (m env s) (fun _ s1 => Q .nx env s1) (fun c fs s => Q (.ex c fs) env s) := by unfold exprM; rw [wps_bs]; rfl
theorem wps_ret {m : ME D} : wps (retM m env s) Q = wp (m env s) (fun d s1 => Q (.rt d) env s1) (fun c fs s => Q (.ex c fs) env s) := by unfold retM; rw [wps_bs]; rfl
theorem wps_if {c : ME Bool} {m n : MS} : wps (ifS c m n env s) Q = wp (c env s) (fun k s1 => if k then wps (m env s1) Q else wps (n env s1) Q) (fun c fs s => Q (.ex c fs) env s) := by
  unfold ifS
  rw [wps_bs]
  congr 1
  funext k s1
  cases k <;> rfl
theorem wps_set {i : Nat} {m : ME D} : wps (setM i m env s) Q = wp (m env s) (fun d s1 => Q .nx (env.set i (some d)) s1) (fun c fs s => Q (.ex c fs) env s) := by unfold setM; rw [wps_bs]; rfl
theorem wps_setT {t : Tg} {m : ME D} : wps (setT t m env s) Q = wp (m env s) (fun d s1 => match asg t d s1 env with
    | some env' => Q .nx env' s1
    | none => False) (fun c fs s => Q (.ex c fs) env s) := by
  unfold setT
  rw [wps_bs]
  congr 1
  funext d s1
  cases asg t d s1 env <;> rfl
theorem wps_setI {mo mi mv : ME D} : wps (setI mo mi mv env s) Q = wp (mv env s) (fun v s1 => wp (mo env s1) (fun o s2 => wp (mi env s2) (fun i s3 => match putF o i v s3 with
    | some s4 => Q .nx env s4
    | none => False) (fun c fs s => Q (.ex c fs) env s)) (fun c fs s => Q (.ex c fs) env s)) (fun c fs s => Q (.ex c fs) env s) := by
  unfold setI
  rw [wps_bs]
  congr 1
  funext v s1
  rw [wps_bs]
  congr 1
  funext o s2
  rw [wps_bs]
  congr 1
  funext i s3
  cases putF o i v s3 <;> rfl
theorem wps_setF {c f : Str} {mo mv : ME D} : wps (setF c f mo mv env s) Q = wp (mv env s) (fun v s1 => wp (mo env s1) (fun o s2 => match setFF c f o v s2 with
    | some s3 => Q .nx env s3
    | none => False) (fun c fs s => Q (.ex c fs) env s)) (fun c fs s => Q (.ex c fs) env s) := by
  unfold setF
  rw [wps_bs]
  congr 1
  funext v s1
  rw [wps_bs]
  congr 1
  funext o s2
  cases setFF c f o v s2 <;> rfl
/-- for, over items that are known, by an invariant of how many are done -/
theorem wps_for {t : Tg} {m : ME Itm} {b : MS} (I : Nat → Env → S → Prop) {ds : List D} {gd : Option (Nat × Ob)} {s1 : S} (hm : m env s = .ok (ds, gd) s1) (h0 : I 0 env s1) (hg : ∀ i env s, i ≤ ds.length → I i env s → GdOk gd s)
    (hs : ∀ (i : Nat) (d : D) (env : Env) (s : S), ds[i]? = some d → I i env s → ∃ env1, asg t d s env = some env1 ∧ wps (b env1 s) (fun f env2 s2 => match f with
      | .nx => I (i + 1) env2 s2
      | .ct => I (i + 1) env2 s2
      | .bk => Q .nx env2 s2
      | f => Q f env2 s2)) (hd : ∀ env s, I ds.length env s → Q .nx env s) : wps (forM t m b env s) Q := by
  have key : ∀ (n i : Nat) (env : Env) (s : S), i + n = ds.length → I i env s → wps (forL t gd b (ds.drop i) env s) Q := by
    intro n
    induction n with
    | zero =>
      intro i env s hi h
      have e : i = ds.length := by omega
      subst e
      rw [List.drop_length]
      unfold forL
      rw [if_pos (hg _ _ _ (Nat.le_refl _) h)]
      exact hd env s h
    | succ n ih =>
      intro i env s hi h
      have hl : i < ds.length := by omega
      rw [List.drop_eq_getElem_cons hl]
      unfold forL
      rw [if_pos (hg _ _ _ (by omega) h)]
      obtain ⟨env1, e1, w⟩ := hs i _ env s (List.getElem?_eq_getElem hl) h
      rw [e1]
      simp only
      cases hb : b env1 s with
      | ok fe s2 =>
        obtain ⟨f, env2⟩ := fe
        rw [hb] at w
        cases f with
        | nx => exact ih (i + 1) env2 s2 (by omega) w
        | ct => exact ih (i + 1) env2 s2 (by omega) w
        | bk => exact w
        | rt d => exact w
        | ex c fs => exact w
      | exc c fs s2 => rw [hb] at w; exact w
      | bad => rw [hb] at w; exact w
  unfold forM
  rw [wps_bs, hm]
  exact key ds.length 0 env s1 (by omega) h0
end
/-! ### calls -/
/-- nothing points outward -/
structure S.Wf (s : S) : Prop where
  out : ∀ a, s.next ≤ a → s.heap a = none
  inn : ∀ a o, s.heap a = some o → obBelow s.next o
theorem S.cut_of {s s' : S} (w : s.Wf) (h : ∀ a, a < s.next → s'.heap a = s.heap a) : s'.cut s.next = s := by
  obtain ⟨n, hp⟩ := s
  unfold S.cut
  congr 1
  funext a
  by_cases ha : a < n
  · rw [if_pos ha]; exact h a ha
  · rw [if_neg ha]; exact (w.out a (Nat.le_of_not_lt ha)).symm
/-- a call that changes nothing old -/
theorem gc_pure {s s' : S} {ds : List D} (w : s.Wf) (h : ∀ a, a < s.next → s'.heap a = s.heap a) (hb : belowL s.next ds) : gcS s.next ds s' = s := by
  unfold gcS
  rw [if_pos ⟨hb, fun a o ha e => w.inn a o (by rw [← h a ha]; exact e)⟩]
  exact S.cut_of w h
theorem gc_wf {s' : S} {n : Nat} {ds : List D} (hn : s'.next = n) (w : s'.Wf) : gcS n ds s' = s' := by
  subst hn
  unfold gcS
  split
  · exact S.cut_of w fun _ _ => rfl
  · rfl
/-- a call's end, by its body's -/
theorem wp_callB {n N : Nat} {b : MS} {ds : List D} {s : S} {Q : D → S → Prop} {E : XP} (hl : ds.length = n) (h : wps (b (ds.map some ++ List.replicate (N - ds.length) none) s) (fun f _ s' => match f with
    | .nx => Q .non (gcS s.next [.non] s')
    | .rt d => Q d (gcS s.next [d] s')
    | .ex c fs => E c fs (gcS s.next (fs.map (·.2)) s')
    | _ => False)) : wp (callB n N b ds s) Q E := by
  unfold callB
  rw [if_pos hl]
  cases hb : b (ds.map some ++ List.replicate (N - ds.length) none) s with
  | ok fe s2 =>
    obtain ⟨f, env2⟩ := fe
    rw [hb] at h
    cases f <;> exact h
  | exc c fs s2 => rw [hb] at h; exact h
  | bad => rw [hb] at h; exact h
end Co
namespace Co
open PySem L2
section
variable {Q : D → S → Prop} {QB : Bool → S → Prop} {E : XP} {env : Env} {s : S}
theorem wp_v {i : Nat} : wp (varM i env s) Q E = (match env[i]? with
    | some (some d) => Q d s
    | _ => False) := by
  unfold varM
  cases env[i]? with
  | none => rfl
  | some o => cases o <;> rfl
theorem wp_lck {α : Type} {mi : ME D} {m : ME α} {Q : α → S → Prop} : wp (lockM mi m env s) Q E = (match lkAt (mi env s) s with
    | some (a, lb) => wp (m env (s.upd a lb)) (fun x s' => match s'.heap a with
      | some lb => match ulOb lb with
        | some ub => Q x (s'.upd a ub)
        | none => False
      | none => False) E
    | none => wp (m env s) Q E) := by
  unfold lockM
  cases lkAt (mi env s) s with
  | none => rfl
  | some q =>
    obtain ⟨a, lb⟩ := q
    simp only
    cases m env (s.upd a lb) with
    | ok x s' =>
      unfold unlkE
      simp only [wp_ok]
      cases s'.heap a with
      | none => rfl
      | some lb =>
        simp only
        cases ulOb lb <;> rfl
    | exc c fs s' => rfl
    | bad => rfl
theorem wp_meth {c n : Str} {m : List D → S → R D} {mo : ME D} {mes : ME (List D)} : wp (methN c n m mo mes env s) Q E = wp (mo env s) (fun x s1 => match recvD c n x s1 with
    | some a => wp (mes env s1) (fun ds s2 => wp (m (.ref a :: ds) s2) Q E) E
    | none => False) E := by
  unfold methN
  rw [wp_bd]
  congr 1
  funext x s1
  cases recvD c n x s1 with
  | none => rfl
  | some a => simp only [wp_bd]
theorem wp_mk {c : Str} {m : List D → S → R D} {mes : ME (List D)} : wp (mkM c m mes env s) Q E = wp (mes env s) (fun ds s1 => wp (m (.ref s1.next :: ds) (s1.alloc (.ins c []))) (fun r s2 => match r with
    | .non => Q (.ref s1.next) s2
    | _ => False) E) E := by
  unfold mkM
  rw [wp_bd]
  congr 1
  funext ds s1
  rw [wp_bd]
  congr 1
  funext r s2
  cases r <;> rfl
theorem wp_pop {mo mk : ME D} : wp (popM mo mk env s) Q E = wp (mo env s) (fun x s1 => if isLst x s1 = true then wp (mk env s1) (fun d s2 => wp (pop1F x [d] s2) Q E) E else if isDic x s1 = true then wp (mk env s1) (fun y s2 => wp (dpopF x y s2) Q E) E else False) E := by
  unfold popM
  rw [wp_bd]
  congr 1
  funext x s1
  by_cases h : isLst x s1 = true
  · simp only [if_pos h, wp_bd, wp_cons, wp_nil]
  · simp only [if_neg h, wp_ite, wp_bd]
    rfl
theorem wp_get2 {mo mk mx : ME D} : wp (get2M mo mk mx env s) Q E = wp (mo env s) (fun x s1 => if isDic x s1 = true then wp (mk env s1) (fun y s2 => wp (mx env s2) (fun z s3 => match dget x y s3 with
    | some o => Q (o.getD z) s3
    | none => False) E) E else False) E := by
  unfold get2M
  rw [wp_bd]
  congr 1
  funext x s1
  rw [wp_ite, wp_bd]
  congr 2
  funext y s2
  rw [wp_bd]
  congr 1
  funext z s3
  cases dget x y s3 <;> rfl
end
theorem wps_lks {mi : ME D} {m : MS} {env : Env} {s : S} {Q : QS} : wps (lockS mi m env s) Q = (match lkAt (mi env s) s with
    | some (a, lb) => wps (m env (s.upd a lb)) (fun f e s' => match f with
      | .ex c fs => Q (.ex c fs) e s'
      | f => match s'.heap a with
        | some lb => match ulOb lb with
          | some ub => Q f e (s'.upd a ub)
          | none => False
        | none => False)
    | none => wps (m env s) Q) := by
  unfold lockS
  cases lkAt (mi env s) s with
  | none => rfl
  | some q =>
    obtain ⟨a, lb⟩ := q
    simp only
    cases m env (s.upd a lb) with
    | ok fe s' =>
      obtain ⟨f, e⟩ := fe
      cases f with
      | ex c fs => rfl
      | _ =>
        unfold unlkS
        simp only [wps_ok]
        cases s'.heap a with
        | none => rfl
        | some lb =>
          simp only
          cases ulOb lb <;> rfl
    | exc c fs s' => rfl
    | bad => rfl
/-! ### a list comprehension that only reads -/
theorem lcL_pure {t : Tg} {gd : Option (Nat × Ob)} {own : List Nat} {tst : ME Bool} {elt : ME D} {env : Env} {s : S} (f : D → Option D) (hg : GdOk gd s) :
    ∀ (ds acc : List D), (∀ d ∈ ds, ∃ env1, asg t d s (wipeE env own) = some env1 ∧ (match f d with
      | none => tst env1 s = .ok false s
      | some y => tst env1 s = .ok true s ∧ elt env1 s = .ok y s)) → acc.length + ds.length ≤ LINE → lcL t gd own tst elt env ds acc s = .ok (acc ++ ds.filterMap f) s
  | [], acc, _, _ => by
    unfold lcL
    rw [if_pos hg]
    simp
  | d :: ds, acc, h, hl => by
    obtain ⟨env1, h1, h2⟩ := h d List.mem_cons_self
    rw [List.length_cons] at hl
    unfold lcL
    rw [if_pos hg, h1]
    simp only
    cases hf : f d with
    | none =>
      rw [hf] at h2
      rw [h2]
      simp only [nox, bd_ok, Bool.false_eq_true, if_false]
      rw [lcL_pure f hg ds acc (fun d hd => h d (List.mem_cons_of_mem _ hd)) (by omega), List.filterMap_cons, hf]
    | some y =>
      rw [hf] at h2
      obtain ⟨h3, h4⟩ := h2
      rw [h3]
      simp only [nox, bd_ok, if_true]
      rw [h4]
      simp only [bd_ok]
      rw [if_pos (by omega), lcL_pure f hg ds (acc ++ [y]) (fun d hd => h d (List.mem_cons_of_mem _ hd)) (by rw [List.length_append, List.length_singleton]; omega), List.filterMap_cons, hf]
      simp
theorem wp_lc {m : Bool} {t : Tg} {it : ME Itm} {own : List Nat} {tst : ME Bool} {elt : ME D} {env : Env} {s s1 : S} {ds : List D} {gd : Option (Nat × Ob)} {Q : D → S → Prop} {E : XP} (hi : it env s = .ok (ds, gd) s1) (f : D → Option D) (hg : GdOk gd s1)
    (h : ∀ d ∈ ds, ∃ env1, asg t d s1 (wipeE env own) = some env1 ∧ (match f d with
      | none => tst env1 s1 = .ok false s1
      | some y => tst env1 s1 = .ok true s1 ∧ elt env1 s1 = .ok y s1)) (hl : ds.length ≤ LINE) (hQ : wp (mkL m (ds.filterMap f) s1) Q E) : wp (lcM m t it own tst elt env s) Q E := by
  unfold lcM
  rw [hi, bd_ok, lcL_pure f hg ds [] h (by simpa using hl)]
  rw [List.nil_append, bd_ok]
  exact hQ
/-! ### the operations at values -/
section
variable {s : S} {i j : Int} {a b : Str}
theorem f_add {m : Bool} : addF m (.int i) (.int j) s = .ok (.int (i + j)) s := rfl
theorem f_sub : subF (.int i) (.int j) s = .ok (.int (i - j)) s := by unfold subF intF; exact if_pos trivial
theorem f_mul : mulF (.int i) (.int j) s = if CMul i j then .ok (.int (i * j)) s else .bad := rfl
theorem f_mod : modF (.int i) (.int j) s = if 0 < j then .ok (.int (i % j)) s else .bad := rfl
theorem f_fdiv : fdivF (.int i) (.int j) s = if CDiv i j then .ok (.int (i / j)) s else .bad := rfl
theorem f_pow : powF (.int i) (.int j) s = if CPow i j then .ok (.int (i ^ j.toNat)) s else .bad := rfl
theorem f_lt : ltF (.int i) (.int j) s = .ok (.bl (decide (i < j))) s := by unfold ltF intF; exact if_pos trivial
theorem f_le : leF (.int i) (.int j) s = .ok (.bl (decide (i ≤ j))) s := by unfold leF intF; exact if_pos trivial
theorem f_gt : gtF (.int i) (.int j) s = .ok (.bl (decide (j < i))) s := by unfold gtF intF; exact if_pos trivial
theorem f_ge : geF (.int i) (.int j) s = .ok (.bl (decide (j ≤ i))) s := by unfold geF intF; exact if_pos trivial
theorem f_eqi {n : Bool} : eqF n (.int i) (.int j) s = .ok (.bl (if n then !decide (i = j) else decide (i = j))) s := rfl
theorem f_eqs {n : Bool} : eqF n (.str a) (.str b) s = .ok (.bl (if n then !decide (a = b) else decide (a = b))) s := rfl
theorem f_int : intB [.int i] s = .ok (.int i) s := rfl
theorem f_neg : negF (.int i) s = .ok (.int (-i)) s := rfl
theorem upd_heap {a b : Nat} {o : Ob} : (s.upd a o).heap b = if b = a then some o else s.heap b := rfl
theorem upd_next {a : Nat} {o : Ob} : (s.upd a o).next = s.next := rfl
theorem all_heap {b : Nat} {o : Ob} : (s.alloc o).heap b = if b = s.next then some o else s.heap b := rfl
theorem all_next {o : Ob} : (s.alloc o).next = s.next + 1 := rfl
theorem f_rng1 (h : -(2 ^ 62) ≤ i ∧ i < 2 ^ 62) : rngF1 (.int i) s = .ok (rngD 0 i.toNat, none) s := by
  unfold rngF1
  first | exact if_pos h | (simp only [Int.sub_zero]; exact if_pos h) | simp [h]
theorem f_rng2 (h : -(2 ^ 62) ≤ i ∧ i < 2 ^ 62 ∧ -(2 ^ 62) ≤ j ∧ j < 2 ^ 62) : rngF2 (.int i) (.int j) s = .ok (rngD i (j - i).toNat, none) s := by
  unfold rngF2
  exact if_pos h
theorem rngD_at {lo : Int} {n k : Nat} (h : k < n) : (rngD lo n)[k]? = some (.int (lo + k)) := by
  unfold rngD
  rw [List.getElem?_map, List.getElem?_range h]
  rfl
theorem rngD_len {lo : Int} {n : Nat} : (rngD lo n).length = n := by unfold rngD; simp
theorem rngD_is {lo : Int} {n k : Nat} {d : D} (h : (rngD lo n)[k]? = some d) : k < n ∧ d = .int (lo + k) := by
  have hk : k < n := by
    have := (List.getElem?_eq_some_iff.mp h).1
    rwa [rngD_len] at this
  rw [rngD_at hk] at h
  cases h
  exact ⟨hk, rfl⟩
end
/-! ### states that are well formed -/
theorem S.Wf.upd {s : S} (w : s.Wf) {a : Nat} {o : Ob} (ha : a < s.next) (ho : obBelow s.next o) : (s.upd a o).Wf := by
  refine ⟨fun b hb => ?_, fun b p e => ?_⟩
  · rw [upd_heap, if_neg (by have : s.next ≤ b := hb; omega)]
    exact w.out b hb
  · rw [upd_heap] at e
    split at e
    · cases e; exact ho
    · exact w.inn b p e
mutual
theorem below.mono {n m : Nat} (h : n ≤ m) : ∀ (d : D), below n d → below m d
  | .ref a, b => Nat.lt_of_lt_of_le b h
  | .tup ds, b => belowL.mono h ds b
  | .ct ds, b => belowL.mono h ds b
  | .lv ds, b => belowL.mono h ds b
  | .sc ds, b => belowL.mono h ds b
  | .dv _ ds, b => belowL.mono h ds b
  | .non, _ => trivial
  | .bl _, _ => trivial
  | .int _, _ => trivial
  | .str _, _ => trivial
theorem belowL.mono {n m : Nat} (h : n ≤ m) : ∀ (ds : List D), belowL n ds → belowL m ds
  | [], _ => trivial
  | d :: ds, b => ⟨below.mono h d b.1, belowL.mono h ds b.2⟩
end
theorem obBelow.mono {n m : Nat} (h : n ≤ m) : ∀ {o : Ob}, obBelow n o → obBelow m o
  | .lst _, b => belowL.mono h _ b
  | .dK _, b => belowL.mono h _ b
  | .dT _, b => belowL.mono h _ b
  | .lk _, b => belowL.mono h _ b
  | .lkT _, b => belowL.mono h _ b
  | .ins _ _, b => belowL.mono h _ b
theorem S.Wf.lt {s : S} (w : s.Wf) {a : Nat} {o : Ob} (e : s.heap a = some o) : a < s.next := by
  by_cases h : a < s.next
  · exact h
  · rw [w.out a (Nat.le_of_not_lt h)] at e; cases e
theorem S.Wf.alloc {s : S} (w : s.Wf) {o : Ob} (ho : obBelow (s.next + 1) o) : (s.alloc o).Wf := by
  refine ⟨fun b hb => ?_, fun b p e => ?_⟩
  · have hb' : s.next + 1 ≤ b := hb
    rw [all_heap, if_neg (by omega)]
    exact w.out b (by omega)
  · rw [all_heap] at e
    split at e
    · cases e; exact ho
    · exact (w.inn b p e).mono (Nat.le_succ _)
theorem wf0 : S0.Wf := ⟨fun _ _ => rfl, fun _ _ e => by cases e⟩
theorem belowL_of {n : Nat} : ∀ {ds : List D}, (∀ d ∈ ds, below n d) → belowL n ds
  | [], _ => trivial
  | d :: ds, h => ⟨h d List.mem_cons_self, belowL_of fun x hx => h x (List.mem_cons_of_mem _ hx)⟩
end Co
namespace K00
open PySem PySem.Spec PyProof.Rows L2 Co
def top (i : Nat) : Stmt := PySem.Challenge.pw_stopsheld_k00_words_exact.main.body.getD i (.Pass ⟨0, 0, 0, 0⟩)
-- wrap, slots ['integer']
def b_wrap : C := (.seq
 (.ret (.bin .sub false (.bin .mod false (.bin .add false (.var 0) (.gl 0)) (.gl 1)) (.gl 0)))
 .skip)
def d_wrap : Df := ⟨⟨"wrap", .fn, 0, ["integer"]⟩, ["integer"], b_wrap, ⟨("wrap", none), "wrap", "wrap", defArgs (top 6), defBody (top 6), defScope (top 6), [], []⟩⟩
-- _law_cell, slots ['_law_script', '_law_k']
def b_law_cell : C := (.seq
 (.ifs (.tcmp .lt (.var 1) (.blt .len false (.cons (.var 0) .nil))) (.seq
 (.ret (.ix (.var 0) (.var 1)))
 .skip) .skip)
 (.seq
 (.ret (.int 0))
 .skip))
def d_law_cell : Df := ⟨⟨"_law_cell", .fn, 0, ["_law_script", "_law_k"]⟩, ["_law_script", "_law_k"], b_law_cell, ⟨("_law_cell", none), "_law_cell", "_law_cell", defArgs (top 11), defBody (top 11), defScope (top 11), [], []⟩⟩
-- _law_same, slots ['_law_actual', '_law_due']
def b_law_same : C := (.seq
 (.ret (.cmp .eq (.blt .repr false (.cons (.var 0) .nil)) (.blt .repr false (.cons (.var 1) .nil))))
 .skip)
def d_law_same : Df := ⟨⟨"_law_same", .fn, 0, ["_law_actual", "_law_due"]⟩, ["_law_actual", "_law_due"], b_law_same, ⟨("_law_same", none), "_law_same", "_law_same", defArgs (top 13), defBody (top 13), defScope (top 13), [], []⟩⟩
-- _law_draw, slots ['_law_box', '_law_many', '_law_at']
def b_law_draw : C := (.seq
 (.set 2 (.ix (.var 0) (.int 1)))
 (.seq
 (.setI (.var 0) (.int 1) (.bin .add false (.var 2) (.int 1)))
 (.seq
 (.ifs (.tcmp .lt (.var 2) (.blt .len false (.cons (.ix (.var 0) (.int 0)) .nil))) (.seq
 (.ret (.bin .mod false (.blt .int false (.cons (.ix (.ix (.var 0) (.int 0)) (.var 2)) .nil)) (.var 1)))
 .skip) .skip)
 (.seq
 (.ret (.bin .mod false (.blt .int false (.cons (.bin .add false (.bin .mul false (.var 2) (.int 7)) (.int 3)) .nil)) (.var 1)))
 .skip))))
def d_law_draw : Df := ⟨⟨"_law_draw", .fn, 0, ["_law_box", "_law_many"]⟩, ["_law_box", "_law_many", "_law_at"], b_law_draw, ⟨("_law_draw", none), "_law_draw", "_law_draw", defArgs (top 15), defBody (top 15), defScope (top 15), [], []⟩⟩
-- _law_wrap, slots ['_law_number']
def b_law_wrap : C := (.seq
 (.ret (.bin .sub false (.bin .mod false (.blt .int false (.cons (.bin .add false (.var 0) (.int 32768)) .nil)) (.int 65536)) (.int 32768)))
 .skip)
def d_law_wrap : Df := ⟨⟨"_law_wrap", .fn, 0, ["_law_number"]⟩, ["_law_number"], b_law_wrap, ⟨("_law_wrap", none), "_law_wrap", "_law_wrap", defArgs (top 24), defBody (top 24), defScope (top 24), [], []⟩⟩
-- operate, slots ['operation', 'a', 'b']
def b_operate : C := (.seq
 (.ifs (.tcmp .eq (.var 0) (.str "add")) (.seq
 (.ret (.call 0 (.cons (.bin .add false (.var 1) (.var 2)) .nil)))
 .skip) .skip)
 (.seq
 (.ifs (.tcmp .eq (.var 0) (.str "sub")) (.seq
 (.ret (.call 0 (.cons (.bin .sub false (.var 1) (.var 2)) .nil)))
 .skip) .skip)
 (.seq
 (.ifs (.tcmp .eq (.var 0) (.str "mul")) (.seq
 (.ret (.call 0 (.cons (.bin .mul false (.var 1) (.var 2)) .nil)))
 .skip) .skip)
 (.seq
 (.ifs (.tcmp .eq (.var 0) (.str "less")) (.seq
 (.ret (.ite (.tcmp .lt (.var 1) (.var 2)) (.int 1) (.int 0)))
 .skip) .skip)
 (.seq
 (.ret (.ite (.tcmp .eq (.var 1) (.var 2)) (.int 1) (.int 0)))
 .skip)))))
def d_operate : Df := ⟨⟨"operate", .fn, 1, ["operation", "a", "b"]⟩, ["operation", "a", "b"], b_operate, ⟨("operate", none), "operate", "operate", defArgs (top 7), defBody (top 7), defScope (top 7), [], []⟩⟩
-- is_name, slots ['text', 'sign']
def b_is_name : C := (.seq
 (.ifs (.tor (.tnot (.tchn .le .le (.int 1) (.blt .len false (.cons (.var 0) .nil)) (.gl 4))) (.tor (.tcmp .nin (.ix (.var 0) (.int 0)) (.gl 3)) (.tor1 (.tcmp .eq (.var 0) (.str "else"))))) (.seq
 (.ret (.bl false))
 .skip) .skip)
 (.seq
 (.ret (.gen false (.name 1) [1] (.it (.var 0)) (.vor (.cmp .in_ (.var 1) (.gl 3)) (.v1 (.cmp .in_ (.var 1) (.gl 2))))))
 .skip))
def d_is_name : Df := ⟨⟨"is_name", .fn, 1, ["text"]⟩, ["text", "sign"], b_is_name, ⟨("is_name", none), "is_name", "is_name", defArgs (top 8), defBody (top 8), defScope (top 8), [], []⟩⟩
-- _law_digits, slots ['_law_script', '_law_first', '_law_last', '_law_digits_here', '_law_k', '_law_cell_here', '_law_turn', '_law_seed']
def b_law_digits_l2 : C := (.seq
 (.ifs (.tcmp .gt (.var 5) (.int 0)) (.seq
 (.ex (.mt .app (.var 3) (.cons (.bin .mod false (.blt .int false (.cons (.var 5) .nil)) (.int 1000)) .nil)))
 (.seq
 (.set 5 (.bin .fdiv false (.var 5) (.int 1000)))
 .skip)) .skip)
 .skip)
def b_law_digits_l3 : C := (.seq
 (.set 7 (.bin .mod false (.blt .int false (.cons (.bin .add false (.bin .add false (.bin .mul false (.var 7) (.int 16807)) (.bin .mul false (.int 7) (.var 6))) (.int 1)) .nil)) (.int 2147483647)))
 (.seq
 (.ex (.mt .app (.var 3) (.cons (.bin .mod false (.blt .int false (.cons (.bin .fdiv false (.var 7) (.int 997)) .nil)) (.int 1000)) .nil)))
 .skip))
def b_law_digits_l1 : C := (.seq
 (.set 5 (.call 1 (.cons (.var 0) (.cons (.var 4) .nil))))
 (.seq
 (.ifs (.tcmp .lt (.var 5) (.int 0)) (.seq
 (.set 5 (.bin .sub false (.int 1) (.bin .mul false (.int 2) (.var 5))))
 .skip) .skip)
 (.seq
 (.ifs (.tcmp .ge (.var 5) (.bin .pow false (.int 10) (.int 18))) (.seq
 (.fors (.name 6) (.rng1 (.int 60)) b_law_digits_l2)
 .skip) (.seq
 (.set 7 (.bin .mod false (.blt .int false (.cons (.bin .add false (.bin .add false (.bin .mul false (.var 5) (.int 48271)) (.bin .mul false (.var 4) (.int 69621))) (.int 11)) .nil)) (.int 2147483647)))
 (.seq
 (.fors (.name 6) (.rng1 (.int 12)) b_law_digits_l3)
 .skip)))
 .skip)))
def b_law_digits : C := (.seq
 (.set 3 (.lst true .nil))
 (.seq
 (.fors (.name 4) (.rng2 (.var 1) (.var 2)) b_law_digits_l1)
 (.seq
 (.ret (.frz (.var 3)))
 .skip)))
def d_law_digits : Df := ⟨⟨"_law_digits", .fn, 1, ["_law_script", "_law_first", "_law_last"]⟩, ["_law_script", "_law_first", "_law_last", "_law_digits_here", "_law_k", "_law_cell_here", "_law_turn", "_law_seed"], b_law_digits, ⟨("_law_digits", none), "_law_digits", "_law_digits", defArgs (top 14), defBody (top 14), defScope (top 14), [], []⟩⟩
-- _law_operated, slots ['_law_operation', '_law_a', '_law_b']
def b_law_operated : C := (.seq
 (.ifs (.tcmp .eq (.var 0) (.str "less")) (.seq
 (.ret (.blt .int false (.cons (.cmp .lt (.var 1) (.var 2)) .nil)))
 .skip) .skip)
 (.seq
 (.ifs (.tcmp .eq (.var 0) (.str "equal")) (.seq
 (.ret (.blt .int false (.cons (.cmp .eq (.var 1) (.var 2)) .nil)))
 .skip) .skip)
 (.seq
 (.ret (.call 4 (.cons (.ix (.dsp (.dpc (.str "add") (.bin .add false (.var 1) (.var 2)) (.dpc (.str "sub") (.bin .sub false (.var 1) (.var 2)) (.dpc (.str "mul") (.bin .mul false (.var 1) (.var 2)) .dpn)))) (.var 0)) .nil)))
 .skip)))
def d_law_operated : Df := ⟨⟨"_law_operated", .fn, 1, ["_law_operation", "_law_a", "_law_b"]⟩, ["_law_operation", "_law_a", "_law_b"], b_law_operated, ⟨("_law_operated", none), "_law_operated", "_law_operated", defArgs (top 25), defBody (top 25), defScope (top 25), [], []⟩⟩
-- _law_word, slots ['_law_box']
def b_law_word : C := (.seq
 (.ret (.ix (.lst false (.cons (.call 3 (.cons (.var 0) (.cons (.int 4) .nil))) (.cons (.bin .sub false (.call 3 (.cons (.var 0) (.cons (.int 9) .nil))) (.int 4)) (.cons (.int 32767) (.cons (.neg (.int 32768)) (.cons (.call 3 (.cons (.var 0) (.cons (.int 900) .nil))) .nil)))))) (.call 3 (.cons (.var 0) (.cons (.int 5) .nil)))))
 .skip)
def d_law_word : Df := ⟨⟨"_law_word", .fn, 1, ["_law_box"]⟩, ["_law_box"], b_law_word, ⟨("_law_word", none), "_law_word", "_law_word", defArgs (top 30), defBody (top 30), defScope (top 30), [], []⟩⟩
-- law, slots ['_law_script', '_law_box', '_law_turn', '_law_rows', '_law_number', '_law_told', '_law_one', '_law_other', '_law_operation', '_law_text']
def b_law_l2 : C := (.seq
 (.ifs (.tnot (.tru (.call 2 (.cons (.call 5 (.cons (.var 8) (.cons (.var 6) (.cons (.var 7) .nil)))) (.cons (.call 8 (.cons (.var 8) (.cons (.var 6) (.cons (.var 7) .nil)))) .nil))))) (.seq
 (.ret (.bl false))
 .skip) .skip)
 .skip)
def b_law_l1 : C := (.seq
 (.set 4 (.ix (.lst false (.cons (.bin .sub false (.call 3 (.cons (.var 1) (.cons (.int 900) .nil))) (.int 450)) (.cons (.bin .add false (.int 32760) (.call 3 (.cons (.var 1) (.cons (.int 16) .nil)))) (.cons (.bin .add false (.neg (.int 32776)) (.call 3 (.cons (.var 1) (.cons (.int 16) .nil)))) (.cons (.bin .add false (.bin .mul false (.int 65536) (.bin .sub false (.call 3 (.cons (.var 1) (.cons (.int 9) .nil))) (.int 4))) (.call 3 (.cons (.var 1) (.cons (.int 9) .nil)))) .nil))))) (.call 3 (.cons (.var 1) (.cons (.int 4) .nil)))))
 (.seq
 (.set 5 (.call 0 (.cons (.var 4) .nil)))
 (.seq
 (.ifs (.tor (.tnot (.tru (.isi "int" (.var 5)))) (.tor (.tnot (.tchn .le .le (.neg (.int 32768)) (.var 5) (.int 32767))) (.tor1 (.tcmp .ne (.bin .mod false (.blt .int false (.cons (.bin .sub false (.var 4) (.var 5)) .nil)) (.int 65536)) (.int 0))))) (.seq
 (.ret (.bl false))
 .skip) .skip)
 (.seq
 (.set 6 (.call 9 (.cons (.var 1) .nil)))
 (.seq
 (.set 7 (.call 9 (.cons (.var 1) .nil)))
 (.seq
 (.fors (.name 8) (.it (.lst false (.cons (.str "add") (.cons (.str "sub") (.cons (.str "mul") (.cons (.str "less") (.cons (.str "equal") .nil))))))) b_law_l2)
 (.seq
 (.ifs (.tor (.tcmp .ne (.call 0 (.cons (.var 6) .nil)) (.var 6)) (.tor1 (.tcmp .ne (.call 5 (.cons (.str "sub") (.cons (.call 5 (.cons (.str "add") (.cons (.var 6) (.cons (.var 7) .nil)))) (.cons (.var 7) .nil)))) (.var 6)))) (.seq
 (.ret (.bl false))
 .skip) .skip)
 .skip)))))))
def b_law : C := (.seq
 (.set 1 (.lst true (.cons (.call 7 (.cons (.var 0) (.cons (.int 0) (.cons (.int 20) .nil)))) (.cons (.int 0) .nil))))
 (.seq
 (.fors (.name 2) (.rng1 (.int 8)) b_law_l1)
 (.seq
 (.set 3 (.lst false (.cons (.tup (.cons (.str "a") (.cons (.bl true) .nil))) (.cons (.tup (.cons (.str "a1b2c3") (.cons (.bl true) .nil))) (.cons (.tup (.cons (.str "abcdefg") (.cons (.bl false) .nil))) (.cons (.tup (.cons (.str "") (.cons (.bl false) .nil))) (.cons (.tup (.cons (.str "1a") (.cons (.bl false) .nil))) .nil)))))))
 (.seq
 (.set 3 (.bin .add false (.var 3) (.lst false (.cons (.tup (.cons (.str "else") (.cons (.bl false) .nil))) (.cons (.tup (.cons (.str "elses") (.cons (.bl true) .nil))) (.cons (.tup (.cons (.str "A") (.cons (.bl false) .nil))) (.cons (.tup (.cons (.str "a-b") (.cons (.bl false) .nil))) (.cons (.tup (.cons (.str "print") (.cons (.bl true) .nil))) (.cons (.tup (.cons (.str "block") (.cons (.bl true) .nil))) (.cons (.tup (.cons (.str "a b") (.cons (.bl false) .nil))) .nil))))))))))
 (.seq
 (.ret (.cmp .eq (.blt .len false (.cons (.lc false (.tup [9, 5]) [9, 5] (.it (.var 3)) (.tcmp .ne (.call 6 (.cons (.var 9) .nil)) (.var 5)) (.var 9)) .nil)) (.int 0)))
 .skip)))))
def d_law : Df := ⟨⟨"law", .fn, 2, ["_law_script"]⟩, ["_law_script", "_law_box", "_law_turn", "_law_rows", "_law_number", "_law_told", "_law_one", "_law_other", "_law_operation", "_law_text"], b_law, ⟨("law", none), "law", "law", defArgs (top 32), defBody (top 32), defScope (top 32), [], []⟩⟩
def ds : List Df := [d_wrap, d_law_cell, d_law_same, d_law_draw, d_law_wrap, d_operate, d_is_name, d_law_digits, d_law_operated, d_law_word, d_law]
def gls : List Str := ["HALF", "WORDS", "DIGITS", "LETTERS", "NAME_MOST"]
def G : Nat → D
  | 0 => .int 32768
  | 1 => .int 65536
  | 2 => .str "0123456789"
  | 3 => .str "abcdefghijklmnopqrstuvwxyz"
  | 4 => .int 6
  | _ => .non
def frees : List Str := ["len", "repr", "int", "all", "range", "isinstance"]
def nats : List (Str × Str) := []
def xc : Xc := ⟨[], []⟩
def fa : List He.Fa := [.glo "wrap", .glo "_law_cell", .glo "_law_same", .glo "_law_draw", .glo "_law_wrap", .glo "operate", .glo "is_name", .glo "_law_digits", .glo "_law_operated", .glo "_law_word", .glo "law", .free "len", .free "repr", .free "int", .free "all", .free "range", .free "isinstance", .int "HALF" 32768, .int "WORDS" 65536, .str "DIGITS" "0123456789", .str "LETTERS" "abcdefghijklmnopqrstuvwxyz", .int "NAME_MOST" 6]
def fn : List He.DefD := ds.map (·.d)
def loose : List PySem.Str := [("LETTERS" : PySem.Str), ("DIGITS" : PySem.Str), ("WORDS" : PySem.Str), ("HALF" : PySem.Str), ("NAME_MOST" : PySem.Str), ("wrap" : PySem.Str), ("operate" : PySem.Str), ("is_name" : PySem.Str), ("_law_is_integer" : PySem.Str), ("_law_cell" : PySem.Str), ("_law_list_is" : PySem.Str), ("_law_same" : PySem.Str), ("_law_digits" : PySem.Str), ("_law_draw" : PySem.Str), ("_law_pick" : PySem.Str), ("_law_shape" : PySem.Str), ("_law_dominators_of" : PySem.Str), ("_law_reached" : PySem.Str), ("_law_instruction" : PySem.Str), ("_law_arguments" : PySem.Str), ("_law_scope" : PySem.Str), ("_law_program" : PySem.Str), ("_law_wrap" : PySem.Str), ("_law_operated" : PySem.Str), ("_law_run" : PySem.Str), ("_law_taken" : PySem.Str), ("_law_names" : PySem.Str), ("_law_state" : PySem.Str), ("_law_word" : PySem.Str), ("_law_words" : PySem.Str)]
abbrev RowO : PySem.W.OpenRow := PySem.W.OpenLaw.row PySem.Challenge.rw_stopsheld_k00_words_exact
def tups : List (PySem.Str × List PySem.Str) := []
def file : PySem.Str := PySem.Challenge.pw_stopsheld_k00_words_exact.main.file
abbrev hk : PySem.W.Hook := hookX 6 fa fn (allB file xc tups)
def ob (s : PySem.W.SharedT) : He.AlD × Bool := obsX 6 fa fn (allB file xc tups) (HandSHeadRun.getT s)
theorem ob_eq (s : PySem.W.SharedT) : ob s = hk.obs s.abs := obsX_eq (HandSHeadRun.getT_eq s)
theorem run (w : World) : HandSHeadRun.RunEq RowO (PySem.W.view RowO.prog [32]) hk ob 1500 loose w := by
  intro os
  kernel_rfl
theorem checked : ∀ d ∈ ds, okD gls frees nats xc (ds.map (·.fi)) d = true := by decide +kernel
theorem nfacts {K : PySem.W.Frag} {mg : PySem.Str → Option Value} {h : Heap} (X : K.In h) (N : h.Ns mainGlobals mg) (cT : allB file xc tups K = true) (c0 : He.SaysD fa fn K) : NFacts gls frees nats xc PySem.Challenge.pw_stopsheld_k00_words_exact G K mg where
  gls := fun k x e => by
    match k, e with
    | 0, e => cases e; obtain ⟨t, ht⟩ := He.int_ok X N (c0.fact 17 (f := .int "HALF" 32768) rfl); exact ⟨_, .int 32768, ht, ⟨t, rfl⟩, fun _ _ => rfl⟩
    | 1, e => cases e; obtain ⟨t, ht⟩ := He.int_ok X N (c0.fact 18 (f := .int "WORDS" 65536) rfl); exact ⟨_, .int 65536, ht, ⟨t, rfl⟩, fun _ _ => rfl⟩
    | 2, e => cases e; obtain ⟨t, ht⟩ := He.str_ok X N (c0.fact 19 (f := .str "DIGITS" "0123456789") rfl); exact ⟨_, .str "0123456789", ht, ⟨t, rfl⟩, fun _ _ => rfl⟩
    | 3, e => cases e; obtain ⟨t, ht⟩ := He.str_ok X N (c0.fact 20 (f := .str "LETTERS" "abcdefghijklmnopqrstuvwxyz") rfl); exact ⟨_, .str "abcdefghijklmnopqrstuvwxyz", ht, ⟨t, rfl⟩, fun _ _ => rfl⟩
    | 4, e => cases e; obtain ⟨t, ht⟩ := He.int_ok X N (c0.fact 21 (f := .int "NAME_MOST" 6) rfl); exact ⟨_, .int 6, ht, ⟨t, rfl⟩, fun _ _ => rfl⟩
    | n + 5, e => exact absurd (show ([] : List PySem.Str)[n]? = some x from e) (by simp)
  frees := fun x hx => by
    simp only [frees, List.mem_cons, List.mem_nil_iff, or_false] at hx
    rcases hx with rfl | rfl | rfl | rfl | rfl | rfl
    · exact He.free_ok X N (c0.fact 11 (f := .free "len") rfl)
    · exact He.free_ok X N (c0.fact 12 (f := .free "repr") rfl)
    · exact He.free_ok X N (c0.fact 13 (f := .free "int") rfl)
    · exact He.free_ok X N (c0.fact 14 (f := .free "all") rfl)
    · exact He.free_ok X N (c0.fact 15 (f := .free "range") rfl)
    · exact He.free_ok X N (c0.fact 16 (f := .free "isinstance") rfl)
  nats := fun p hp => by
    simp only [nats, List.mem_cons, List.mem_nil_iff, or_false] at hp
  excs := fun p hp => by
    simp only [xc, List.mem_cons, List.mem_nil_iff, or_false] at hp
  exms := fun p hp => by
    have all := List.all_eq_true.mp (Bool.and_eq_true_iff.mp (show (xc.excs.all (fun q => xcB file K (He.ga K q.1) (He.ma K (He.ga K q.1) "__init__") q.2) && xc.exms.all (fun q => decide (PySem.W.exmOne K (.ref (He.ga K q.1)) (.ref (He.ga K q.2.1)) = some q.2.2))) = true from allB_1 cT)).2 p hp
    refine ⟨of_decide_eq_true all, ?_⟩
    simp only [xc, List.mem_cons, List.mem_nil_iff, or_false] at hp
  top := fun _ => by kernel_rfl
theorem kinds {K : PySem.W.Frag} {mg : PySem.Str → Option Value} {h : Heap} (X : K.In h) (N : h.Ns mainGlobals mg) (c : He.SaysD fa fn K) : ∀ d ∈ ds, KindOk K mg d.fi := by
  intro d hd
  simp only [ds, List.mem_cons, List.mem_nil_iff, or_false] at hd
  rcases hd with rfl | rfl | rfl | rfl | rfl | rfl | rfl | rfl | rfl | rfl | rfl
  · exact He.glo_ok X N (c.fact 0 (f := .glo "wrap") rfl)
  · exact He.glo_ok X N (c.fact 1 (f := .glo "_law_cell") rfl)
  · exact He.glo_ok X N (c.fact 2 (f := .glo "_law_same") rfl)
  · exact He.glo_ok X N (c.fact 3 (f := .glo "_law_draw") rfl)
  · exact He.glo_ok X N (c.fact 4 (f := .glo "_law_wrap") rfl)
  · exact He.glo_ok X N (c.fact 5 (f := .glo "operate") rfl)
  · exact He.glo_ok X N (c.fact 6 (f := .glo "is_name") rfl)
  · exact He.glo_ok X N (c.fact 7 (f := .glo "_law_digits") rfl)
  · exact He.glo_ok X N (c.fact 8 (f := .glo "_law_operated") rfl)
  · exact He.glo_ok X N (c.fact 9 (f := .glo "_law_word") rfl)
  · exact He.glo_ok X N (c.fact 10 (f := .glo "law") rfl)
theorem funs {K : PySem.W.Frag} (c : He.SaysD fa fn K) : ∀ d ∈ ds, ∃ fd, FunD K d.d.name d.d.qual d.d.params d.d.body d.d.scope (d.d.dvs K) (d.d.kws K) (He.fAd K d.d.at_) fd := by
  intro d hd
  obtain ⟨i, hi⟩ := List.getElem?_of_mem hd
  exact c.def_ i (d := d.d) (by show (ds.map (·.d))[i]? = _; rw [List.getElem?_map, hi]; rfl)
end K00
namespace Co
open PySem L2
/-! ### any, all of a generator expression that only reads -/
theorem gnL_pure {b : Bool} {t : Tg} {gd : Option (Nat × Ob)} {own : List Nat} {elt : ME D} {env : Env} {s : S} (f : D → Bool) (hg : GdOk gd s) :
    ∀ (ds : List D), (∀ d ∈ ds, ∃ env1, asg t d s (wipeE env own) = some env1 ∧ elt env1 s = .ok (.bl (f d)) s) → gnL b t gd own elt env ds s = .ok (.bl (if b then ds.any f else ds.all f)) s
  | [], _ => by
    unfold gnL
    rw [if_pos hg]
    cases b <;> rfl
  | d :: ds, h => by
    obtain ⟨env1, h1, h2⟩ := h d List.mem_cons_self
    unfold gnL
    rw [if_pos hg, h1]
    simp only
    rw [h2]
    simp only [nox, bd_ok]
    rw [gnL_pure f hg ds fun d hd => h d (List.mem_cons_of_mem _ hd), List.any_cons, List.all_cons]
    cases f d <;> cases b <;> rfl
theorem wp_gen {b : Bool} {t : Tg} {it : ME Itm} {own : List Nat} {elt : ME D} {env : Env} {s s1 : S} {ds : List D} {gd : Option (Nat × Ob)} {Q : D → S → Prop} {E : XP} (hi : it env s = .ok (ds, gd) s1) (f : D → Bool) (hg : GdOk gd s1)
    (h : ∀ d ∈ ds, ∃ env1, asg t d s1 (wipeE env own) = some env1 ∧ elt env1 s1 = .ok (.bl (f d)) s1) (hQ : Q (.bl (if b then ds.any f else ds.all f)) s1) : wp (gnM b t it own elt env s) Q E := by
  unfold gnM
  rw [hi, bd_ok, gnL_pure f hg ds h]
  exact hQ
end Co
namespace Co
open PySem L2
/-! ### the draws, that all laws share -/
def cellC : C := (.seq
 (.ifs (.tcmp .lt (.var 1) (.blt .len false (.cons (.var 0) .nil))) (.seq
 (.ret (.ix (.var 0) (.var 1)))
 .skip) .skip)
 (.seq
 (.ret (.int 0))
 .skip))
def drawC : C := (.seq
 (.set 2 (.ix (.var 0) (.int 1)))
 (.seq
 (.setI (.var 0) (.int 1) (.bin .add false (.var 2) (.int 1)))
 (.seq
 (.ifs (.tcmp .lt (.var 2) (.blt .len false (.cons (.ix (.var 0) (.int 0)) .nil))) (.seq
 (.ret (.bin .mod false (.blt .int false (.cons (.ix (.ix (.var 0) (.int 0)) (.var 2)) .nil)) (.var 1)))
 .skip) .skip)
 (.seq
 (.ret (.bin .mod false (.blt .int false (.cons (.bin .add false (.bin .mul false (.var 2) (.int 7)) (.int 3)) .nil)) (.var 1)))
 .skip))))
def digC2 : C := (.seq
 (.ifs (.tcmp .gt (.var 5) (.int 0)) (.seq
 (.ex (.mt .app (.var 3) (.cons (.bin .mod false (.blt .int false (.cons (.var 5) .nil)) (.int 1000)) .nil)))
 (.seq
 (.set 5 (.bin .fdiv false (.var 5) (.int 1000)))
 .skip)) .skip)
 .skip)
def digC3 : C := (.seq
 (.set 7 (.bin .mod false (.blt .int false (.cons (.bin .add false (.bin .add false (.bin .mul false (.var 7) (.int 16807)) (.bin .mul false (.int 7) (.var 6))) (.int 1)) .nil)) (.int 2147483647)))
 (.seq
 (.ex (.mt .app (.var 3) (.cons (.bin .mod false (.blt .int false (.cons (.bin .fdiv false (.var 7) (.int 997)) .nil)) (.int 1000)) .nil)))
 .skip))
def digC1 (j : Nat) : C := (.seq
 (.set 5 (.call j (.cons (.var 0) (.cons (.var 4) .nil))))
 (.seq
 (.ifs (.tcmp .lt (.var 5) (.int 0)) (.seq
 (.set 5 (.bin .sub false (.int 1) (.bin .mul false (.int 2) (.var 5))))
 .skip) .skip)
 (.seq
 (.ifs (.tcmp .ge (.var 5) (.bin .pow false (.int 10) (.int 18))) (.seq
 (.fors (.name 6) (.rng1 (.int 60)) digC2)
 .skip) (.seq
 (.set 7 (.bin .mod false (.blt .int false (.cons (.bin .add false (.bin .add false (.bin .mul false (.var 5) (.int 48271)) (.bin .mul false (.var 4) (.int 69621))) (.int 11)) .nil)) (.int 2147483647)))
 (.seq
 (.fors (.name 6) (.rng1 (.int 12)) digC3)
 .skip)))
 .skip)))
def digC (j : Nat) : C := (.seq
 (.set 3 (.lst true .nil))
 (.seq
 (.fors (.name 4) (.rng2 (.var 1) (.var 2)) (digC1 j))
 (.seq
 (.ret (.frz (.var 3)))
 .skip)))
section
variable {F : Nat → List D → S → R D} {G : Nat → D}
theorem atI_nat {α : Type} {xs : List α} {k : Int} (h0 : 0 ≤ k) : atI xs k = xs[k.toNat]? := by
  unfold atI ixN
  rw [if_pos h0]
  by_cases h : k < xs.length
  · rw [if_pos h]; rfl
  · rw [if_neg h, List.getElem?_eq_none (by omega)]; rfl
theorem alloc_upd {s : S} {o o' : Ob} : (s.alloc o).upd s.next o' = s.alloc o' := by
  unfold S.alloc S.upd
  congr 1
  funext b
  unfold updA
  by_cases h : b = s.next
  · rw [if_pos h, if_pos h]
  · rw [if_neg h, if_neg h]
    exact if_neg h
theorem below_ints (n : Nat) (ns : List Int) : belowL n (ns.map D.int) := belowL_of fun d hd => by
  obtain ⟨i, _, rfl⟩ := List.mem_map.mp hd
  trivial
theorem app_at {s : S} {o : List D} {d : D} (h : o.length < LINE) : appF (.ref s.next) [d] (s.alloc (.lst o)) = .ok .non (s.alloc (.lst (o ++ [d]))) := by
  have e : (s.alloc (.lst o)).heap s.next = some (.lst o) := if_pos rfl
  simp [appF, hlOf, e, h, alloc_upd]
theorem isLst_at {s : S} {o : List D} : isLst (.ref s.next) (s.alloc (.lst o)) = true := by
  have e : (s.alloc (.lst o)).heap s.next = some (.lst o) := if_pos rfl
  simp [isLst, lstOf, e]
theorem line_is : LINE = 16777216 := by unfold LINE; rw [sizeLine_eq]
theorem c18 : CPow 10 18 := ⟨by decide, by decide, by decide⟩
theorem cd1000 (i : Int) : CDiv i 1000 := ⟨by decide, by decide⟩
theorem cd997 (i : Int) : CDiv i 997 := ⟨by decide, by decide⟩
theorem cell_gen (ns : List Int) (k : Int) (s : S) (w : s.Wf) (h0 : 0 ≤ k) {Q : D → S → Prop} {E : XP} (hQ : Q (.int (ns.getD k.toNat 0)) s) : wp (callB 2 2 (ev F G cellC).s [.sc (ns.map .int), .int k] s) Q E := by
  refine wp_callB rfl ?_
  simp only [cellC, ev, wps_seq, wps_if, wps_ret, wps_nx, wps_fl, wps_expr, wps_set, wps_setT, wps_setI, wps_setF, wps_lks, wp_bool, wp_tru, wp_notM, wp_andM, wp_orM, wp_ifM, wp_op2, wp_op1, wp_arg, wp_cons, wp_nil, wp_lit, wp_mth, wp_meth, wp_mk, wp_pop, wp_get2, wp_lck, wp_v, wp_ok, wps_ok, List.map_cons, List.map_nil, List.length_cons, List.length_nil, Nat.zero_add, Nat.reduceAdd, Nat.reduceSub, List.replicate_zero, List.replicate_succ, List.cons_append, List.nil_append, List.append_nil, List.getElem?_cons_zero, List.getElem?_cons_succ, List.set_cons_zero, List.set_cons_succ, blF, mtF, opF, cmF, f_add, f_sub, f_mul, f_mod, f_fdiv, f_pow, f_lt, f_le, f_gt, f_ge, f_eqi, f_eqs, f_int, f_neg, upd_heap, upd_next, all_heap, all_next, Bool.false_eq_true, if_true, if_false, decide_eq_true_eq, Nat.sub_self]
  have hl : lenF [.sc (ns.map D.int)] s = .ok (.int ns.length) s := by simp [lenF, lenD, seqOf, lstOf]
  rw [hl]
  simp only [ev, wps_seq, wps_if, wps_ret, wps_nx, wps_fl, wps_expr, wps_set, wps_setT, wps_setI, wps_setF, wps_lks, wp_bool, wp_tru, wp_notM, wp_andM, wp_orM, wp_ifM, wp_op2, wp_op1, wp_arg, wp_cons, wp_nil, wp_lit, wp_mth, wp_meth, wp_mk, wp_pop, wp_get2, wp_lck, wp_v, wp_ok, wps_ok, List.map_cons, List.map_nil, List.length_cons, List.length_nil, Nat.zero_add, Nat.reduceAdd, Nat.reduceSub, List.replicate_zero, List.replicate_succ, List.cons_append, List.nil_append, List.append_nil, List.getElem?_cons_zero, List.getElem?_cons_succ, List.set_cons_zero, List.set_cons_succ, blF, mtF, opF, cmF, f_add, f_sub, f_mul, f_mod, f_fdiv, f_pow, f_lt, f_le, f_gt, f_ge, f_eqi, f_eqs, f_int, f_neg, upd_heap, upd_next, all_heap, all_next, Bool.false_eq_true, if_true, if_false, decide_eq_true_eq, Nat.sub_self]
  by_cases h : k < ns.length
  · have hi : ixF (.sc (ns.map D.int)) (.int k) s = .ok (.int (ns.getD k.toNat 0)) s := by
      simp [ixF, seqOf, lstOf, atI_nat h0, List.getD]
      rw [List.getElem?_eq_getElem (by omega)]
      rfl
    simp only [h, hi, ev, wps_seq, wps_if, wps_ret, wps_nx, wps_fl, wps_expr, wps_set, wps_setT, wps_setI, wps_setF, wps_lks, wp_bool, wp_tru, wp_notM, wp_andM, wp_orM, wp_ifM, wp_op2, wp_op1, wp_arg, wp_cons, wp_nil, wp_lit, wp_mth, wp_meth, wp_mk, wp_pop, wp_get2, wp_lck, wp_v, wp_ok, wps_ok, List.map_cons, List.map_nil, List.length_cons, List.length_nil, Nat.zero_add, Nat.reduceAdd, Nat.reduceSub, List.replicate_zero, List.replicate_succ, List.cons_append, List.nil_append, List.append_nil, List.getElem?_cons_zero, List.getElem?_cons_succ, List.set_cons_zero, List.set_cons_succ, blF, mtF, opF, cmF, f_add, f_sub, f_mul, f_mod, f_fdiv, f_pow, f_lt, f_le, f_gt, f_ge, f_eqi, f_eqs, f_int, f_neg, upd_heap, upd_next, all_heap, all_next, Bool.false_eq_true, if_true, if_false, decide_eq_true_eq, Nat.sub_self]
    rw [gc_pure w (fun _ _ => rfl) (belowL_of (by simp [below]))]
    exact hQ
  · simp only [h, ev, wps_seq, wps_if, wps_ret, wps_nx, wps_fl, wps_expr, wps_set, wps_setT, wps_setI, wps_setF, wps_lks, wp_bool, wp_tru, wp_notM, wp_andM, wp_orM, wp_ifM, wp_op2, wp_op1, wp_arg, wp_cons, wp_nil, wp_lit, wp_mth, wp_meth, wp_mk, wp_pop, wp_get2, wp_lck, wp_v, wp_ok, wps_ok, List.map_cons, List.map_nil, List.length_cons, List.length_nil, Nat.zero_add, Nat.reduceAdd, Nat.reduceSub, List.replicate_zero, List.replicate_succ, List.cons_append, List.nil_append, List.append_nil, List.getElem?_cons_zero, List.getElem?_cons_succ, List.set_cons_zero, List.set_cons_succ, blF, mtF, opF, cmF, f_add, f_sub, f_mul, f_mod, f_fdiv, f_pow, f_lt, f_le, f_gt, f_ge, f_eqi, f_eqs, f_int, f_neg, upd_heap, upd_next, all_heap, all_next, Bool.false_eq_true, if_true, if_false, decide_eq_true_eq, Nat.sub_self]
    rw [gc_pure w (fun _ _ => rfl) (belowL_of (by simp [below]))]
    have e : ns.getD k.toNat 0 = 0 := by
      rw [List.getD, List.getElem?_eq_none (by omega)]; rfl
    rw [e] at hQ
    exact hQ
/-- a box of digits -/
def Box (s : S) (a : Nat) : Prop := ∃ (ns : List Int) (k : Int), s.heap a = some (.lst [.lv (ns.map .int), .int k]) ∧ 0 ≤ k
/-- behind a draw from the box at a -/
structure After (s : S) (a : Nat) (t : S) : Prop where
  next : t.next = s.next
  wf : t.Wf
  box : Box t a
  same : ∀ b, b ≠ a → t.heap b = s.heap b
theorem draw_gen {s : S} {a : Nat} (w : s.Wf) (hb : Box s a) (m : Int) (hm : 0 < m) {Q : D → S → Prop} {E : XP}
    (hQ : ∀ (v : Int) (t : S), 0 ≤ v → v < m → After s a t → Q (.int v) t) : wp (callB 2 3 (ev F G drawC).s [.ref a, .int m] s) Q E := by
  obtain ⟨ns, k, ha, hk⟩ := hb
  refine wp_callB rfl ?_
  simp only [drawC, ev, wps_seq, wps_if, wps_ret, wps_nx, wps_fl, wps_expr, wps_set, wps_setT, wps_setI, wps_setF, wps_lks, wp_bool, wp_tru, wp_notM, wp_andM, wp_orM, wp_ifM, wp_op2, wp_op1, wp_arg, wp_cons, wp_nil, wp_lit, wp_mth, wp_meth, wp_mk, wp_pop, wp_get2, wp_lck, wp_v, wp_ok, wps_ok, List.map_cons, List.map_nil, List.length_cons, List.length_nil, Nat.zero_add, Nat.reduceAdd, Nat.reduceSub, List.replicate_zero, List.replicate_succ, List.cons_append, List.nil_append, List.append_nil, List.getElem?_cons_zero, List.getElem?_cons_succ, List.set_cons_zero, List.set_cons_succ, blF, mtF, opF, cmF, f_add, f_sub, f_mul, f_mod, f_fdiv, f_pow, f_lt, f_le, f_gt, f_ge, f_eqi, f_eqs, f_int, f_neg, upd_heap, upd_next, all_heap, all_next, Bool.false_eq_true, if_true, if_false, decide_eq_true_eq, Nat.sub_self]
  have h1 : ixF (.ref a) (.int 1) s = .ok (.int k) s := by simp [ixF, seqOf, lstOf, ha, atI, ixN]
  rw [h1]
  simp only [ev, wps_seq, wps_if, wps_ret, wps_nx, wps_fl, wps_expr, wps_set, wps_setT, wps_setI, wps_setF, wps_lks, wp_bool, wp_tru, wp_notM, wp_andM, wp_orM, wp_ifM, wp_op2, wp_op1, wp_arg, wp_cons, wp_nil, wp_lit, wp_mth, wp_meth, wp_mk, wp_pop, wp_get2, wp_lck, wp_v, wp_ok, wps_ok, List.map_cons, List.map_nil, List.length_cons, List.length_nil, Nat.zero_add, Nat.reduceAdd, Nat.reduceSub, List.replicate_zero, List.replicate_succ, List.cons_append, List.nil_append, List.append_nil, List.getElem?_cons_zero, List.getElem?_cons_succ, List.set_cons_zero, List.set_cons_succ, blF, mtF, opF, cmF, f_add, f_sub, f_mul, f_mod, f_fdiv, f_pow, f_lt, f_le, f_gt, f_ge, f_eqi, f_eqs, f_int, f_neg, upd_heap, upd_next, all_heap, all_next, Bool.false_eq_true, if_true, if_false, decide_eq_true_eq, Nat.sub_self]
  have h2 : Co.putF (.ref a) (.int 1) (.int (k + 1)) s = some (s.upd a (.lst [.lv (ns.map .int), .int (k + 1)])) := by simp [Co.putF, ha, intOf, ixN]
  simp only [h2, ev, wps_seq, wps_if, wps_ret, wps_nx, wps_fl, wps_expr, wps_set, wps_setT, wps_setI, wps_setF, wps_lks, wp_bool, wp_tru, wp_notM, wp_andM, wp_orM, wp_ifM, wp_op2, wp_op1, wp_arg, wp_cons, wp_nil, wp_lit, wp_mth, wp_meth, wp_mk, wp_pop, wp_get2, wp_lck, wp_v, wp_ok, wps_ok, List.map_cons, List.map_nil, List.length_cons, List.length_nil, Nat.zero_add, Nat.reduceAdd, Nat.reduceSub, List.replicate_zero, List.replicate_succ, List.cons_append, List.nil_append, List.append_nil, List.getElem?_cons_zero, List.getElem?_cons_succ, List.set_cons_zero, List.set_cons_succ, blF, mtF, opF, cmF, f_add, f_sub, f_mul, f_mod, f_fdiv, f_pow, f_lt, f_le, f_gt, f_ge, f_eqi, f_eqs, f_int, f_neg, upd_heap, upd_next, all_heap, all_next, Bool.false_eq_true, if_true, if_false, decide_eq_true_eq, Nat.sub_self]
  generalize hs' : s.upd a (.lst [.lv (ns.map .int), .int (k + 1)]) = s'
  have ha' : s'.heap a = some (.lst [.lv (ns.map .int), .int (k + 1)]) := by rw [← hs', upd_heap, if_pos rfl]
  have hn : s'.next = s.next := by rw [← hs']; rfl
  have w' : s'.Wf := by
    rw [← hs']
    exact w.upd (w.lt ha) ⟨below_ints _ ns, trivial, trivial⟩
  have A' : After s a s' := ⟨hn, w', ⟨ns, k + 1, ha', by omega⟩, fun b hb => by rw [← hs', upd_heap, if_neg hb]⟩
  have gc : ∀ d, gcS s.next d s' = s' := fun d => gc_wf hn w'
  have h3 : ixF (.ref a) (.int 0) s' = .ok (.lv (ns.map .int)) s' := by simp [ixF, seqOf, lstOf, ha', atI, ixN]
  rw [h3]
  simp only [ev, wps_seq, wps_if, wps_ret, wps_nx, wps_fl, wps_expr, wps_set, wps_setT, wps_setI, wps_setF, wps_lks, wp_bool, wp_tru, wp_notM, wp_andM, wp_orM, wp_ifM, wp_op2, wp_op1, wp_arg, wp_cons, wp_nil, wp_lit, wp_mth, wp_meth, wp_mk, wp_pop, wp_get2, wp_lck, wp_v, wp_ok, wps_ok, List.map_cons, List.map_nil, List.length_cons, List.length_nil, Nat.zero_add, Nat.reduceAdd, Nat.reduceSub, List.replicate_zero, List.replicate_succ, List.cons_append, List.nil_append, List.append_nil, List.getElem?_cons_zero, List.getElem?_cons_succ, List.set_cons_zero, List.set_cons_succ, blF, mtF, opF, cmF, f_add, f_sub, f_mul, f_mod, f_fdiv, f_pow, f_lt, f_le, f_gt, f_ge, f_eqi, f_eqs, f_int, f_neg, upd_heap, upd_next, all_heap, all_next, Bool.false_eq_true, if_true, if_false, decide_eq_true_eq, Nat.sub_self]
  have hl : lenF [.lv (ns.map D.int)] s' = .ok (.int ns.length) s' := by simp [lenF, lenD, seqOf, lstOf]
  rw [hl]
  simp only [ev, wps_seq, wps_if, wps_ret, wps_nx, wps_fl, wps_expr, wps_set, wps_setT, wps_setI, wps_setF, wps_lks, wp_bool, wp_tru, wp_notM, wp_andM, wp_orM, wp_ifM, wp_op2, wp_op1, wp_arg, wp_cons, wp_nil, wp_lit, wp_mth, wp_meth, wp_mk, wp_pop, wp_get2, wp_lck, wp_v, wp_ok, wps_ok, List.map_cons, List.map_nil, List.length_cons, List.length_nil, Nat.zero_add, Nat.reduceAdd, Nat.reduceSub, List.replicate_zero, List.replicate_succ, List.cons_append, List.nil_append, List.append_nil, List.getElem?_cons_zero, List.getElem?_cons_succ, List.set_cons_zero, List.set_cons_succ, blF, mtF, opF, cmF, f_add, f_sub, f_mul, f_mod, f_fdiv, f_pow, f_lt, f_le, f_gt, f_ge, f_eqi, f_eqs, f_int, f_neg, upd_heap, upd_next, all_heap, all_next, Bool.false_eq_true, if_true, if_false, decide_eq_true_eq, Nat.sub_self]
  by_cases h : k < ns.length
  · have h4 : ixF (.lv (ns.map D.int)) (.int k) s' = .ok (.int (ns.getD k.toNat 0)) s' := by
      simp [ixF, seqOf, lstOf, atI_nat hk, List.getD]
      rw [List.getElem?_eq_getElem (by omega)]
      rfl
    simp only [h, h3, h4, hm, gc, ev, wps_seq, wps_if, wps_ret, wps_nx, wps_fl, wps_expr, wps_set, wps_setT, wps_setI, wps_setF, wps_lks, wp_bool, wp_tru, wp_notM, wp_andM, wp_orM, wp_ifM, wp_op2, wp_op1, wp_arg, wp_cons, wp_nil, wp_lit, wp_mth, wp_meth, wp_mk, wp_pop, wp_get2, wp_lck, wp_v, wp_ok, wps_ok, List.map_cons, List.map_nil, List.length_cons, List.length_nil, Nat.zero_add, Nat.reduceAdd, Nat.reduceSub, List.replicate_zero, List.replicate_succ, List.cons_append, List.nil_append, List.append_nil, List.getElem?_cons_zero, List.getElem?_cons_succ, List.set_cons_zero, List.set_cons_succ, blF, mtF, opF, cmF, f_add, f_sub, f_mul, f_mod, f_fdiv, f_pow, f_lt, f_le, f_gt, f_ge, f_eqi, f_eqs, f_int, f_neg, upd_heap, upd_next, all_heap, all_next, Bool.false_eq_true, if_true, if_false, decide_eq_true_eq, Nat.sub_self]
    exact hQ _ _ (Int.emod_nonneg _ (by omega)) (Int.emod_lt_of_pos _ hm) A'
  · have c1 : CMul k 7 := .inr ⟨by decide, by decide⟩
    simp only [h, hm, c1, gc, ev, wps_seq, wps_if, wps_ret, wps_nx, wps_fl, wps_expr, wps_set, wps_setT, wps_setI, wps_setF, wps_lks, wp_bool, wp_tru, wp_notM, wp_andM, wp_orM, wp_ifM, wp_op2, wp_op1, wp_arg, wp_cons, wp_nil, wp_lit, wp_mth, wp_meth, wp_mk, wp_pop, wp_get2, wp_lck, wp_v, wp_ok, wps_ok, List.map_cons, List.map_nil, List.length_cons, List.length_nil, Nat.zero_add, Nat.reduceAdd, Nat.reduceSub, List.replicate_zero, List.replicate_succ, List.cons_append, List.nil_append, List.append_nil, List.getElem?_cons_zero, List.getElem?_cons_succ, List.set_cons_zero, List.set_cons_succ, blF, mtF, opF, cmF, f_add, f_sub, f_mul, f_mod, f_fdiv, f_pow, f_lt, f_le, f_gt, f_ge, f_eqi, f_eqs, f_int, f_neg, upd_heap, upd_next, all_heap, all_next, Bool.false_eq_true, if_true, if_false, decide_eq_true_eq, Nat.sub_self]
    exact hQ _ _ (Int.emod_nonneg _ (by omega)) (Int.emod_lt_of_pos _ hm) A'
theorem box_below {s : S} {a : Nat} (h : Box s a) (n : Nat) : ∀ o, s.heap a = some o → obBelow n o := fun o e => by
  obtain ⟨ns, k, ha, _⟩ := h
  rw [ha] at e
  cases e
  exact ⟨below_ints _ ns, trivial, trivial⟩
/-- behind a call that draws from the box at a and makes what is its own -/
theorem gc_after {s s' : S} {a : Nat} {d : D} (w : s.Wf) (hb : Box s' a) (ha : a < s.next) (fr : ∀ b, b < s.next → b ≠ a → s'.heap b = s.heap b) (hd : below s.next d) : After s a (gcS s.next [d] s') := by
  unfold gcS
  have ok : gcOk s.next [d] s' := ⟨⟨hd, trivial⟩, fun b o hlt e => by
    by_cases h : b = a
    · subst h; exact box_below hb _ o e
    · exact w.inn b o (by rw [← fr b hlt h]; exact e)⟩
  rw [if_pos ok]
  have hp : ∀ b, b < s.next → (s'.cut s.next).heap b = s'.heap b := fun b hlt => if_pos hlt
  have hq : ∀ b, s.next ≤ b → (s'.cut s.next).heap b = none := fun b h => if_neg (by omega)
  obtain ⟨ns, k, h1, h2⟩ := id hb
  refine ⟨rfl, ⟨fun b h => hq b h, fun b o e => ?_⟩, ⟨ns, k, by rw [hp a ha]; exact h1, h2⟩, fun b hne => ?_⟩
  · by_cases hlt : b < s.next
    · rw [hp b hlt] at e
      exact ok.2 b o hlt e
    · rw [hq b (by omega)] at e; cases e
  · by_cases hlt : b < s.next
    · rw [hp b hlt]; exact fr b hlt hne
    · rw [hq b (by omega)]; exact (w.out b (by omega)).symm
theorem dig2 {s : S} {e0 e1 e2 e4 e6 e7 : Option D} (c : Int) (ms : List Int) (h : ms.length < LINE) {Q : QS} (hQ : ∀ (c : Int) (ms' : List Int), ms'.length ≤ ms.length + 1 → Q .nx [e0, e1, e2, some (.ref s.next), e4, some (.int c), e6, e7] (s.alloc (.lst (ms'.map .int)))) :
    wps ((ev F G digC2).s [e0, e1, e2, some (.ref s.next), e4, some (.int c), e6, e7] (s.alloc (.lst (ms.map .int)))) Q := by
  simp only [digC2, ev, wps_seq, wps_if, wps_ret, wps_nx, wps_fl, wps_expr, wps_set, wps_setT, wps_setI, wps_setF, wps_lks, wp_bool, wp_tru, wp_notM, wp_andM, wp_orM, wp_ifM, wp_op2, wp_op1, wp_arg, wp_cons, wp_nil, wp_lit, wp_mth, wp_meth, wp_mk, wp_pop, wp_get2, wp_lck, wp_v, wp_ok, wps_ok, List.map_cons, List.map_nil, List.length_cons, List.length_nil, Nat.zero_add, Nat.reduceAdd, Nat.reduceSub, List.replicate_zero, List.replicate_succ, List.cons_append, List.nil_append, List.append_nil, List.getElem?_cons_zero, List.getElem?_cons_succ, List.set_cons_zero, List.set_cons_succ, blF, mtF, opF, cmF, f_add, f_sub, f_mul, f_mod, f_fdiv, f_pow, f_lt, f_le, f_gt, f_ge, f_eqi, f_eqs, f_int, f_neg, upd_heap, upd_next, all_heap, all_next, Bool.false_eq_true, if_true, if_false, decide_eq_true_eq, Nat.sub_self]
  by_cases hc : 0 < c
  · have h2 : (0 : Int) < 1000 := by decide
    have e1 := app_at (s := s) (o := ms.map D.int) (d := .int (c % 1000)) (by simpa using h)
    simp only [hc, h2, cd1000, isLst_at, e1, ev, wps_seq, wps_if, wps_ret, wps_nx, wps_fl, wps_expr, wps_set, wps_setT, wps_setI, wps_setF, wps_lks, wp_bool, wp_tru, wp_notM, wp_andM, wp_orM, wp_ifM, wp_op2, wp_op1, wp_arg, wp_cons, wp_nil, wp_lit, wp_mth, wp_meth, wp_mk, wp_pop, wp_get2, wp_lck, wp_v, wp_ok, wps_ok, List.map_cons, List.map_nil, List.length_cons, List.length_nil, Nat.zero_add, Nat.reduceAdd, Nat.reduceSub, List.replicate_zero, List.replicate_succ, List.cons_append, List.nil_append, List.append_nil, List.getElem?_cons_zero, List.getElem?_cons_succ, List.set_cons_zero, List.set_cons_succ, blF, mtF, opF, cmF, f_add, f_sub, f_mul, f_mod, f_fdiv, f_pow, f_lt, f_le, f_gt, f_ge, f_eqi, f_eqs, f_int, f_neg, upd_heap, upd_next, all_heap, all_next, Bool.false_eq_true, if_true, if_false, decide_eq_true_eq, Nat.sub_self]
    have := hQ (c / 1000) (ms ++ [c % 1000]) (by simp)
    simpa using this
  · simp only [hc, ev, wps_seq, wps_if, wps_ret, wps_nx, wps_fl, wps_expr, wps_set, wps_setT, wps_setI, wps_setF, wps_lks, wp_bool, wp_tru, wp_notM, wp_andM, wp_orM, wp_ifM, wp_op2, wp_op1, wp_arg, wp_cons, wp_nil, wp_lit, wp_mth, wp_meth, wp_mk, wp_pop, wp_get2, wp_lck, wp_v, wp_ok, wps_ok, List.map_cons, List.map_nil, List.length_cons, List.length_nil, Nat.zero_add, Nat.reduceAdd, Nat.reduceSub, List.replicate_zero, List.replicate_succ, List.cons_append, List.nil_append, List.append_nil, List.getElem?_cons_zero, List.getElem?_cons_succ, List.set_cons_zero, List.set_cons_succ, blF, mtF, opF, cmF, f_add, f_sub, f_mul, f_mod, f_fdiv, f_pow, f_lt, f_le, f_gt, f_ge, f_eqi, f_eqs, f_int, f_neg, upd_heap, upd_next, all_heap, all_next, Bool.false_eq_true, if_true, if_false, decide_eq_true_eq, Nat.sub_self]
    exact hQ c ms (Nat.le_succ _)
theorem dig3 {s : S} {e0 e1 e2 e4 e5 : Option D} (t c : Int) (ms : List Int) (h : ms.length < LINE) {Q : QS} (hQ : ∀ (c : Int) (ms' : List Int), ms'.length ≤ ms.length + 1 → Q .nx [e0, e1, e2, some (.ref s.next), e4, e5, some (.int t), some (.int c)] (s.alloc (.lst (ms'.map .int)))) :
    wps ((ev F G digC3).s [e0, e1, e2, some (.ref s.next), e4, e5, some (.int t), some (.int c)] (s.alloc (.lst (ms.map .int)))) Q := by
  have m1 : CMul c 16807 := .inr ⟨by decide, by decide⟩
  have m2 : CMul 7 t := .inl ⟨by decide, by decide⟩
  have p1 : (0 : Int) < 2147483647 := by decide
  have p2 : (0 : Int) < 1000 := by decide
  simp only [digC3, m1, m2, p1, p2, cd997, isLst_at, ev, wps_seq, wps_if, wps_ret, wps_nx, wps_fl, wps_expr, wps_set, wps_setT, wps_setI, wps_setF, wps_lks, wp_bool, wp_tru, wp_notM, wp_andM, wp_orM, wp_ifM, wp_op2, wp_op1, wp_arg, wp_cons, wp_nil, wp_lit, wp_mth, wp_meth, wp_mk, wp_pop, wp_get2, wp_lck, wp_v, wp_ok, wps_ok, List.map_cons, List.map_nil, List.length_cons, List.length_nil, Nat.zero_add, Nat.reduceAdd, Nat.reduceSub, List.replicate_zero, List.replicate_succ, List.cons_append, List.nil_append, List.append_nil, List.getElem?_cons_zero, List.getElem?_cons_succ, List.set_cons_zero, List.set_cons_succ, blF, mtF, opF, cmF, f_add, f_sub, f_mul, f_mod, f_fdiv, f_pow, f_lt, f_le, f_gt, f_ge, f_eqi, f_eqs, f_int, f_neg, upd_heap, upd_next, all_heap, all_next, Bool.false_eq_true, if_true, if_false, decide_eq_true_eq, Nat.sub_self]
  rw [app_at (by simpa using h)]
  simp only [ev, wps_seq, wps_if, wps_ret, wps_nx, wps_fl, wps_expr, wps_set, wps_setT, wps_setI, wps_setF, wps_lks, wp_bool, wp_tru, wp_notM, wp_andM, wp_orM, wp_ifM, wp_op2, wp_op1, wp_arg, wp_cons, wp_nil, wp_lit, wp_mth, wp_meth, wp_mk, wp_pop, wp_get2, wp_lck, wp_v, wp_ok, wps_ok, List.map_cons, List.map_nil, List.length_cons, List.length_nil, Nat.zero_add, Nat.reduceAdd, Nat.reduceSub, List.replicate_zero, List.replicate_succ, List.cons_append, List.nil_append, List.append_nil, List.getElem?_cons_zero, List.getElem?_cons_succ, List.set_cons_zero, List.set_cons_succ, blF, mtF, opF, cmF, f_add, f_sub, f_mul, f_mod, f_fdiv, f_pow, f_lt, f_le, f_gt, f_ge, f_eqi, f_eqs, f_int, f_neg, upd_heap, upd_next, all_heap, all_next, Bool.false_eq_true, if_true, if_false, decide_eq_true_eq, Nat.sub_self]
  have := hQ ((c * 16807 + 7 * t + 1) % 2147483647) (ms ++ [(c * 16807 + 7 * t + 1) % 2147483647 / 997 % 1000]) (by simp)
  simpa using this
theorem rng1_lit {env : Env} {t : S} {k : Nat} (h : k < 1000000) : rng1M (litM (.int (k : Int))) env t = .ok (rngD 0 k, none) t := by
  have := f_rng1 (i := (k : Int)) (s := t) ⟨by omega, by omega⟩
  rw [Int.toNat_natCast] at this
  unfold rng1M litM
  rw [bd_ok, this]
/-- the slots amid the digits -/
def DigE (s : S) (ns : List Int) (n i : Nat) (env : Env) (t : S) : Prop := ∃ (x4 x5 x6 x7 : Option D) (ms : List Int), env = [some (D.sc (ns.map D.int)), some (D.int 0), some (D.int n), some (D.ref s.next), x4, x5, x6, x7] ∧ t = s.alloc (.lst (ms.map D.int)) ∧ ms.length ≤ 60 * i
theorem dig_big (s : S) (ns : List Int) (n i : Nat) (hi : i ≤ 1000) (x4 x6 x7 : Option D) (c : Int) (ms : List Int) (hm : ms.length ≤ 60 * i) {Q : QS} (hQ : ∀ env t, DigE s ns n (i + 1) env t → Q .nx env t) :
    wps (forM (.name 6) (rng1M (litM (.int 60))) (ev F G digC2).s [some (D.sc (ns.map D.int)), some (D.int 0), some (D.int n), some (D.ref s.next), x4, some (.int c), x6, x7] (s.alloc (.lst (ms.map D.int)))) Q := by
  generalize hb2 : (ev F G digC2).s = b2
  have hr := fun env t => rng1_lit (env := env) (t := t) (k := 60) (by omega)
  have e60 : ((60 : Nat) : Int) = 60 := rfl
  rw [e60] at hr
  generalize rng1M (litM (.int 60)) = mm at hr ⊢
  refine wps_for (fun k env t => ∃ (x6 : Option D) (c : Int) (ms' : List Int), env = [some (D.sc (ns.map D.int)), some (D.int 0), some (D.int n), some (D.ref s.next), x4, some (.int c), x6, x7] ∧ t = s.alloc (.lst (ms'.map D.int)) ∧ ms'.length ≤ ms.length + k) (hr _ _)
    ⟨x6, c, ms, rfl, rfl, Nat.le_refl _⟩ (fun _ _ _ _ _ => trivial) (fun k d env t hd hi => ?_) fun env t hi => ?_
  · obtain ⟨x6, c, ms', rfl, rfl, hm'⟩ := hi
    obtain ⟨hk, rfl⟩ := rngD_is hd
    refine ⟨_, rfl, ?_⟩
    subst hb2
    refine dig2 c ms' (by rw [line_is]; omega) fun c' ms2 hl => ⟨_, c', ms2, rfl, rfl, by omega⟩
  · obtain ⟨x6, c, ms', rfl, rfl, hm'⟩ := hi
    rw [rngD_len] at hm'
    exact hQ _ _ ⟨_, _, _, _, ms', rfl, rfl, by omega⟩
theorem dig_small (s : S) (ns : List Int) (n i : Nat) (hi : i ≤ 1000) (x4 x5 x6 : Option D) (c : Int) (ms : List Int) (hm : ms.length ≤ 60 * i) {Q : QS} (hQ : ∀ env t, DigE s ns n (i + 1) env t → Q .nx env t) :
    wps (forM (.name 6) (rng1M (litM (.int 12))) (ev F G digC3).s [some (D.sc (ns.map D.int)), some (D.int 0), some (D.int n), some (D.ref s.next), x4, x5, x6, some (.int c)] (s.alloc (.lst (ms.map D.int)))) Q := by
  generalize hb2 : (ev F G digC3).s = b2
  have hr := fun env t => rng1_lit (env := env) (t := t) (k := 12) (by omega)
  have e60 : ((12 : Nat) : Int) = 12 := rfl
  rw [e60] at hr
  generalize rng1M (litM (.int 12)) = mm at hr ⊢
  refine wps_for (fun k env t => ∃ (x6 : Option D) (c : Int) (ms' : List Int), env = [some (D.sc (ns.map D.int)), some (D.int 0), some (D.int n), some (D.ref s.next), x4, x5, x6, some (.int c)] ∧ t = s.alloc (.lst (ms'.map D.int)) ∧ ms'.length ≤ ms.length + k) (hr _ _)
    ⟨x6, c, ms, rfl, rfl, Nat.le_refl _⟩ (fun _ _ _ _ _ => trivial) (fun k d env t hd hi => ?_) fun env t hi => ?_
  · obtain ⟨x6, c, ms', rfl, rfl, hm'⟩ := hi
    obtain ⟨hk, rfl⟩ := rngD_is hd
    refine ⟨_, rfl, ?_⟩
    subst hb2
    refine dig3 _ c ms' (by rw [line_is]; omega) fun c' ms2 hl => ⟨_, c', ms2, rfl, rfl, by omega⟩
  · obtain ⟨x6, c, ms', rfl, rfl, hm'⟩ := hi
    rw [rngD_len] at hm'
    exact hQ _ _ ⟨_, _, _, _, ms', rfl, rfl, by omega⟩
abbrev CellF (F : Nat → List D → S → R D) (j : Nat) : Prop := ∀ (ns : List Int) (k : Int) (s : S) (Q : D → S → Prop) (E : XP), s.Wf → 0 ≤ k → Q (.int (ns.getD k.toNat 0)) s → wp (F j [.sc (ns.map .int), .int k] s) Q E
theorem dig1 {j : Nat} (hF : CellF F j) (s : S) (w : s.Wf) (ns : List Int) (n i : Nat) (hi : i ≤ 1000) (k : Int) (hk : 0 ≤ k) (x5 x6 x7 : Option D) (ms : List Int) (hm : ms.length ≤ 60 * i) {Q : QS} (hQ : ∀ env t, DigE s ns n (i + 1) env t → Q .nx env t) :
    wps ((ev F G (digC1 j)).s [some (D.sc (ns.map D.int)), some (D.int 0), some (D.int n), some (D.ref s.next), some (.int k), x5, x6, x7] (s.alloc (.lst (ms.map D.int)))) Q := by
  have p1 : (0 : Int) < 2147483647 := by decide
  have m0 : ∀ c : Int, CMul 2 c := fun c => .inl ⟨by decide, by decide⟩
  have m1 : ∀ c : Int, CMul c 48271 := fun c => .inr ⟨by decide, by decide⟩
  have m2 : ∀ c : Int, CMul c 69621 := fun c => .inr ⟨by decide, by decide⟩
  simp only [digC1, ev, wps_seq, wps_if, wps_ret, wps_nx, wps_fl, wps_expr, wps_set, wps_setT, wps_setI, wps_setF, wps_lks, wp_bool, wp_tru, wp_notM, wp_andM, wp_orM, wp_ifM, wp_op2, wp_op1, wp_arg, wp_cons, wp_nil, wp_lit, wp_mth, wp_meth, wp_mk, wp_pop, wp_get2, wp_lck, wp_v, wp_ok, wps_ok, List.map_cons, List.map_nil, List.length_cons, List.length_nil, Nat.zero_add, Nat.reduceAdd, Nat.reduceSub, List.replicate_zero, List.replicate_succ, List.cons_append, List.nil_append, List.append_nil, List.getElem?_cons_zero, List.getElem?_cons_succ, List.set_cons_zero, List.set_cons_succ, blF, mtF, opF, cmF, f_add, f_sub, f_mul, f_mod, f_fdiv, f_pow, f_lt, f_le, f_gt, f_ge, f_eqi, f_eqs, f_int, f_neg, upd_heap, upd_next, all_heap, all_next, Bool.false_eq_true, if_true, if_false, decide_eq_true_eq, Nat.sub_self]
  refine hF ns _ _ _ _ (w.alloc (below_ints _ _)) hk ?_
  generalize ns.getD _ 0 = c0
  by_cases hneg : c0 < 0
  · simp only [hneg, m0, c18, ev, wps_seq, wps_if, wps_ret, wps_nx, wps_fl, wps_expr, wps_set, wps_setT, wps_setI, wps_setF, wps_lks, wp_bool, wp_tru, wp_notM, wp_andM, wp_orM, wp_ifM, wp_op2, wp_op1, wp_arg, wp_cons, wp_nil, wp_lit, wp_mth, wp_meth, wp_mk, wp_pop, wp_get2, wp_lck, wp_v, wp_ok, wps_ok, List.map_cons, List.map_nil, List.length_cons, List.length_nil, Nat.zero_add, Nat.reduceAdd, Nat.reduceSub, List.replicate_zero, List.replicate_succ, List.cons_append, List.nil_append, List.append_nil, List.getElem?_cons_zero, List.getElem?_cons_succ, List.set_cons_zero, List.set_cons_succ, blF, mtF, opF, cmF, f_add, f_sub, f_mul, f_mod, f_fdiv, f_pow, f_lt, f_le, f_gt, f_ge, f_eqi, f_eqs, f_int, f_neg, upd_heap, upd_next, all_heap, all_next, Bool.false_eq_true, if_true, if_false, decide_eq_true_eq, Nat.sub_self]
    by_cases hb : (10 : Int) ^ (18 : Int).toNat ≤ 1 - 2 * c0
    · simp only [hb, ev, wps_seq, wps_if, wps_ret, wps_nx, wps_fl, wps_expr, wps_set, wps_setT, wps_setI, wps_setF, wps_lks, wp_bool, wp_tru, wp_notM, wp_andM, wp_orM, wp_ifM, wp_op2, wp_op1, wp_arg, wp_cons, wp_nil, wp_lit, wp_mth, wp_meth, wp_mk, wp_pop, wp_get2, wp_lck, wp_v, wp_ok, wps_ok, List.map_cons, List.map_nil, List.length_cons, List.length_nil, Nat.zero_add, Nat.reduceAdd, Nat.reduceSub, List.replicate_zero, List.replicate_succ, List.cons_append, List.nil_append, List.append_nil, List.getElem?_cons_zero, List.getElem?_cons_succ, List.set_cons_zero, List.set_cons_succ, blF, mtF, opF, cmF, f_add, f_sub, f_mul, f_mod, f_fdiv, f_pow, f_lt, f_le, f_gt, f_ge, f_eqi, f_eqs, f_int, f_neg, upd_heap, upd_next, all_heap, all_next, Bool.false_eq_true, if_true, if_false, decide_eq_true_eq, Nat.sub_self]
      exact dig_big s ns n i hi _ _ _ _ ms hm hQ
    · simp only [hb, m1, m2, p1, ev, wps_seq, wps_if, wps_ret, wps_nx, wps_fl, wps_expr, wps_set, wps_setT, wps_setI, wps_setF, wps_lks, wp_bool, wp_tru, wp_notM, wp_andM, wp_orM, wp_ifM, wp_op2, wp_op1, wp_arg, wp_cons, wp_nil, wp_lit, wp_mth, wp_meth, wp_mk, wp_pop, wp_get2, wp_lck, wp_v, wp_ok, wps_ok, List.map_cons, List.map_nil, List.length_cons, List.length_nil, Nat.zero_add, Nat.reduceAdd, Nat.reduceSub, List.replicate_zero, List.replicate_succ, List.cons_append, List.nil_append, List.append_nil, List.getElem?_cons_zero, List.getElem?_cons_succ, List.set_cons_zero, List.set_cons_succ, blF, mtF, opF, cmF, f_add, f_sub, f_mul, f_mod, f_fdiv, f_pow, f_lt, f_le, f_gt, f_ge, f_eqi, f_eqs, f_int, f_neg, upd_heap, upd_next, all_heap, all_next, Bool.false_eq_true, if_true, if_false, decide_eq_true_eq, Nat.sub_self]
      exact dig_small s ns n i hi _ _ _ _ ms hm hQ
  · simp only [hneg, c18, ev, wps_seq, wps_if, wps_ret, wps_nx, wps_fl, wps_expr, wps_set, wps_setT, wps_setI, wps_setF, wps_lks, wp_bool, wp_tru, wp_notM, wp_andM, wp_orM, wp_ifM, wp_op2, wp_op1, wp_arg, wp_cons, wp_nil, wp_lit, wp_mth, wp_meth, wp_mk, wp_pop, wp_get2, wp_lck, wp_v, wp_ok, wps_ok, List.map_cons, List.map_nil, List.length_cons, List.length_nil, Nat.zero_add, Nat.reduceAdd, Nat.reduceSub, List.replicate_zero, List.replicate_succ, List.cons_append, List.nil_append, List.append_nil, List.getElem?_cons_zero, List.getElem?_cons_succ, List.set_cons_zero, List.set_cons_succ, blF, mtF, opF, cmF, f_add, f_sub, f_mul, f_mod, f_fdiv, f_pow, f_lt, f_le, f_gt, f_ge, f_eqi, f_eqs, f_int, f_neg, upd_heap, upd_next, all_heap, all_next, Bool.false_eq_true, if_true, if_false, decide_eq_true_eq, Nat.sub_self]
    by_cases hb : (10 : Int) ^ (18 : Int).toNat ≤ c0
    · simp only [hb, ev, wps_seq, wps_if, wps_ret, wps_nx, wps_fl, wps_expr, wps_set, wps_setT, wps_setI, wps_setF, wps_lks, wp_bool, wp_tru, wp_notM, wp_andM, wp_orM, wp_ifM, wp_op2, wp_op1, wp_arg, wp_cons, wp_nil, wp_lit, wp_mth, wp_meth, wp_mk, wp_pop, wp_get2, wp_lck, wp_v, wp_ok, wps_ok, List.map_cons, List.map_nil, List.length_cons, List.length_nil, Nat.zero_add, Nat.reduceAdd, Nat.reduceSub, List.replicate_zero, List.replicate_succ, List.cons_append, List.nil_append, List.append_nil, List.getElem?_cons_zero, List.getElem?_cons_succ, List.set_cons_zero, List.set_cons_succ, blF, mtF, opF, cmF, f_add, f_sub, f_mul, f_mod, f_fdiv, f_pow, f_lt, f_le, f_gt, f_ge, f_eqi, f_eqs, f_int, f_neg, upd_heap, upd_next, all_heap, all_next, Bool.false_eq_true, if_true, if_false, decide_eq_true_eq, Nat.sub_self]
      exact dig_big s ns n i hi _ _ _ _ ms hm hQ
    · simp only [hb, m1, m2, p1, ev, wps_seq, wps_if, wps_ret, wps_nx, wps_fl, wps_expr, wps_set, wps_setT, wps_setI, wps_setF, wps_lks, wp_bool, wp_tru, wp_notM, wp_andM, wp_orM, wp_ifM, wp_op2, wp_op1, wp_arg, wp_cons, wp_nil, wp_lit, wp_mth, wp_meth, wp_mk, wp_pop, wp_get2, wp_lck, wp_v, wp_ok, wps_ok, List.map_cons, List.map_nil, List.length_cons, List.length_nil, Nat.zero_add, Nat.reduceAdd, Nat.reduceSub, List.replicate_zero, List.replicate_succ, List.cons_append, List.nil_append, List.append_nil, List.getElem?_cons_zero, List.getElem?_cons_succ, List.set_cons_zero, List.set_cons_succ, blF, mtF, opF, cmF, f_add, f_sub, f_mul, f_mod, f_fdiv, f_pow, f_lt, f_le, f_gt, f_ge, f_eqi, f_eqs, f_int, f_neg, upd_heap, upd_next, all_heap, all_next, Bool.false_eq_true, if_true, if_false, decide_eq_true_eq, Nat.sub_self]
      exact dig_small s ns n i hi _ _ _ _ ms hm hQ
theorem dig_gen {j : Nat} (hF : CellF F j) (ns : List Int) (n : Nat) (hn : n ≤ 1000) (s : S) (w : s.Wf) {Q : D → S → Prop} {E : XP} (hQ : ∀ ms : List Int, Q (.lv (ms.map .int)) s) : wp (callB 3 8 (ev F G (digC j)).s [.sc (ns.map .int), .int 0, .int n] s) Q E := by
  generalize hb : (ev F G (digC j)).s = b
  refine wp_callB rfl ?_
  subst hb
  simp only [digC, ev, wps_seq, wps_if, wps_ret, wps_nx, wps_fl, wps_expr, wps_set, wps_setT, wps_setI, wps_setF, wps_lks, wp_bool, wp_tru, wp_notM, wp_andM, wp_orM, wp_ifM, wp_op2, wp_op1, wp_arg, wp_cons, wp_nil, wp_lit, wp_mth, wp_meth, wp_mk, wp_pop, wp_get2, wp_lck, wp_v, wp_ok, wps_ok, List.map_cons, List.map_nil, List.length_cons, List.length_nil, Nat.zero_add, Nat.reduceAdd, Nat.reduceSub, List.replicate_zero, List.replicate_succ, List.cons_append, List.nil_append, List.append_nil, List.getElem?_cons_zero, List.getElem?_cons_succ, List.set_cons_zero, List.set_cons_succ, blF, mtF, opF, cmF, f_add, f_sub, f_mul, f_mod, f_fdiv, f_pow, f_lt, f_le, f_gt, f_ge, f_eqi, f_eqs, f_int, f_neg, upd_heap, upd_next, all_heap, all_next, Bool.false_eq_true, if_true, if_false, decide_eq_true_eq, Nat.sub_self]
  have e0 : mkL true [] s = .ok (.ref s.next) (s.alloc (.lst [])) := by simp [mkL]
  rw [e0]
  simp only [ev, wps_seq, wps_if, wps_ret, wps_nx, wps_fl, wps_expr, wps_set, wps_setT, wps_setI, wps_setF, wps_lks, wp_bool, wp_tru, wp_notM, wp_andM, wp_orM, wp_ifM, wp_op2, wp_op1, wp_arg, wp_cons, wp_nil, wp_lit, wp_mth, wp_meth, wp_mk, wp_pop, wp_get2, wp_lck, wp_v, wp_ok, wps_ok, List.map_cons, List.map_nil, List.length_cons, List.length_nil, Nat.zero_add, Nat.reduceAdd, Nat.reduceSub, List.replicate_zero, List.replicate_succ, List.cons_append, List.nil_append, List.append_nil, List.getElem?_cons_zero, List.getElem?_cons_succ, List.set_cons_zero, List.set_cons_succ, blF, mtF, opF, cmF, f_add, f_sub, f_mul, f_mod, f_fdiv, f_pow, f_lt, f_le, f_gt, f_ge, f_eqi, f_eqs, f_int, f_neg, upd_heap, upd_next, all_heap, all_next, Bool.false_eq_true, if_true, if_false, decide_eq_true_eq, Nat.sub_self]
  have hr : rng2M (varM 1) (varM 2) [some (D.sc (ns.map D.int)), some (D.int 0), some (D.int n), some (D.ref s.next), none, none, none, none] (s.alloc (.lst [])) = .ok (rngD 0 n, none) (s.alloc (.lst [])) := by
    have := f_rng2 (i := 0) (j := (n : Int)) (s := s.alloc (.lst [])) ⟨by omega, by omega, by omega, by omega⟩
    rw [Int.sub_zero, Int.toNat_natCast] at this
    simp only [rng2M, varM, List.getElem?_cons_zero, List.getElem?_cons_succ, bd_ok, this]
  generalize hb1 : (ev F G (digC1 j)).s = b1
  generalize rng2M (varM 1) (varM 2) = mm at hr ⊢
  refine wps_for (DigE s ns n) hr ⟨none, none, none, none, [], rfl, rfl, Nat.zero_le _⟩ (fun _ _ _ _ _ => trivial) (fun i d env t hd hi => ?_) fun env t hi => ?_
  · obtain ⟨x4, x5, x6, x7, ms, rfl, rfl, hm⟩ := hi
    obtain ⟨hin, rfl⟩ := rngD_is hd
    refine ⟨_, rfl, ?_⟩
    subst hb1
    exact dig1 hF s w ns n i (by omega) _ (by omega) _ _ _ ms hm fun env t h => h
  · obtain ⟨x4, x5, x6, x7, ms, rfl, rfl, hm⟩ := hi
    simp only [ev, wps_seq, wps_if, wps_ret, wps_nx, wps_fl, wps_expr, wps_set, wps_setT, wps_setI, wps_setF, wps_lks, wp_bool, wp_tru, wp_notM, wp_andM, wp_orM, wp_ifM, wp_op2, wp_op1, wp_arg, wp_cons, wp_nil, wp_lit, wp_mth, wp_meth, wp_mk, wp_pop, wp_get2, wp_lck, wp_v, wp_ok, wps_ok, List.map_cons, List.map_nil, List.length_cons, List.length_nil, Nat.zero_add, Nat.reduceAdd, Nat.reduceSub, List.replicate_zero, List.replicate_succ, List.cons_append, List.nil_append, List.append_nil, List.getElem?_cons_zero, List.getElem?_cons_succ, List.set_cons_zero, List.set_cons_succ, blF, mtF, opF, cmF, f_add, f_sub, f_mul, f_mod, f_fdiv, f_pow, f_lt, f_le, f_gt, f_ge, f_eqi, f_eqs, f_int, f_neg, upd_heap, upd_next, all_heap, all_next, Bool.false_eq_true, if_true, if_false, decide_eq_true_eq, Nat.sub_self]
    have e1 : frzF (.ref s.next) (s.alloc (.lst (ms.map D.int))) = .ok (.lv (ms.map D.int)) ((s.alloc (.lst (ms.map D.int))).free s.next) := by
      have e : (s.alloc (.lst (ms.map D.int))).heap s.next = some (.lst (ms.map D.int)) := if_pos rfl
      simp [frzF, e]
    rw [e1]
    simp only [ev, wps_seq, wps_if, wps_ret, wps_nx, wps_fl, wps_expr, wps_set, wps_setT, wps_setI, wps_setF, wps_lks, wp_bool, wp_tru, wp_notM, wp_andM, wp_orM, wp_ifM, wp_op2, wp_op1, wp_arg, wp_cons, wp_nil, wp_lit, wp_mth, wp_meth, wp_mk, wp_pop, wp_get2, wp_lck, wp_v, wp_ok, wps_ok, List.map_cons, List.map_nil, List.length_cons, List.length_nil, Nat.zero_add, Nat.reduceAdd, Nat.reduceSub, List.replicate_zero, List.replicate_succ, List.cons_append, List.nil_append, List.append_nil, List.getElem?_cons_zero, List.getElem?_cons_succ, List.set_cons_zero, List.set_cons_succ, blF, mtF, opF, cmF, f_add, f_sub, f_mul, f_mod, f_fdiv, f_pow, f_lt, f_le, f_gt, f_ge, f_eqi, f_eqs, f_int, f_neg, upd_heap, upd_next, all_heap, all_next, Bool.false_eq_true, if_true, if_false, decide_eq_true_eq, Nat.sub_self]
    rw [gc_pure w (fun a ha => ?_) (belowL_of fun d hd => ?_)]
    · exact hQ ms
    · show (if a = s.next then none else if a = s.next then _ else s.heap a) = _
      rw [if_neg (Nat.ne_of_lt ha), if_neg (Nat.ne_of_lt ha)]
    · rw [List.mem_singleton.mp hd]
      exact below_ints _ _
end
end Co
namespace Co
open PySem L2
theorem wp_chn {f f' : D → D → S → R D} {ma mb mc : ME D} {env : Env} {s : S} {Q : D → S → Prop} {E : XP} : wp (chainM f f' ma mb mc env s) Q E = wp (ma env s) (fun x s1 => wp (mb env s1) (fun y s2 => wp (f x y s2) (fun z s3 => match z with
    | .bl true => wp (mc env s3) (fun w s4 => wp (f' y w s4) Q E) E
    | .bl false => Q (.bl false) s3
    | _ => False) E) E) E := by
  unfold chainM
  simp only [wp_bd]
  congr 1
  funext x s1
  congr 1
  funext y s2
  congr 1
  funext z s3
  cases z with
  | bl b => cases b <;> simp only [wp_bd, wp_ok]
  | _ => rfl
/-! ### is_name -/
def letS : Str := "abcdefghijklmnopqrstuvwxyz"
def digS : Str := "0123456789"
def sgS (c : Nat) : Str := ⟨#[c]⟩
def isNameS (z : Str) : Bool := (decide (1 ≤ z.length) && decide (z.length ≤ 6)) && (strIn (sgS (z.cps.toList.headD 0)) letS && (!decide (z = "else") && z.cps.toList.all fun c => strIn (sgS c) letS || strIn (sgS c) digS))
/-- the numbers of the constants -/
structure Nj where
  gd : Nat
  gl : Nat
  gm : Nat
def isnameC (J : Nj) : C := (.seq
 (.ifs (.tor (.tnot (.tchn .le .le (.int 1) (.blt .len false (.cons (.var 0) .nil)) (.gl J.gm))) (.tor (.tcmp .nin (.ix (.var 0) (.int 0)) (.gl J.gl)) (.tor1 (.tcmp .eq (.var 0) (.str "else"))))) (.seq
 (.ret (.bl false))
 .skip) .skip)
 (.seq
 (.ret (.gen false (.name 1) [1] (.it (.var 0)) (.vor (.cmp .in_ (.var 1) (.gl J.gl)) (.v1 (.cmp .in_ (.var 1) (.gl J.gd))))))
 .skip))
section
variable {F : Nat → List D → S → R D} {G : Nat → D} {s : S} {J : Nj}
theorem inF_str (n : Bool) (x y : Str) (s : S) : inF n (.str x) (.str y) s = .ok (.bl (if n then !strIn x y else strIn x y)) s := rfl
theorem isname_gen (w : s.Wf) (hm : G J.gm = .int 6) (hl : G J.gl = .str letS) (hd : G J.gd = .str digS) {z : Str} (hz : z.length ≤ 1000000) {Q : D → S → Prop} {E : XP} (hQ : Q (.bl (isNameS z)) s) : wp (callB 1 2 (ev F G (isnameC J)).s [.str z] s) Q E := by
  refine wp_callB rfl ?_
  have gc : ∀ b : Bool, gcS s.next [.bl b] s = s := fun b => gc_wf rfl w
  have le : lenF [.str z] s = .ok (.int (z.length : Nat)) s := by
    have : z.length ≤ LINE := by rw [line_is]; omega
    simp only [lenF, lenD, this, if_true]
  have sz : z.cps.toList.length = z.length := by simp [Str.length]
  simp only [isnameC, ev, wps_seq, wps_if, wps_ret, wps_nx, wps_fl, wps_expr, wps_set, wps_setT, wps_setI, wps_setF, wps_lks, wp_bool, wp_tru, wp_notM, wp_andM, wp_orM, wp_ifM, wp_op2, wp_op1, wp_arg, wp_cons, wp_nil, wp_lit, wp_mth, wp_meth, wp_mk, wp_pop, wp_get2, wp_lck, wp_v, wp_ok, wps_ok, List.map_cons, List.map_nil, List.length_cons, List.length_nil, Nat.zero_add, Nat.reduceAdd, Nat.reduceSub, List.replicate_zero, List.replicate_succ, List.cons_append, List.nil_append, List.append_nil, List.getElem?_cons_zero, List.getElem?_cons_succ, List.set_cons_zero, List.set_cons_succ, blF, mtF, opF, cmF, f_add, f_sub, f_mul, f_mod, f_fdiv, f_pow, f_lt, f_le, f_gt, f_ge, f_eqi, f_eqs, f_int, f_neg, upd_heap, upd_next, all_heap, all_next, Bool.false_eq_true, if_true, if_false, decide_eq_true_eq, Nat.sub_self, wp_chn, hm, hl, hd, le, cmF, f_le]
  by_cases h1 : 1 ≤ z.length
  · have e1 : decide ((1 : Int) ≤ (z.length : Nat)) = true := decide_eq_true (by omega)
    simp only [e1, wp_ok, f_le, ev, wps_seq, wps_if, wps_ret, wps_nx, wps_fl, wps_expr, wps_set, wps_setT, wps_setI, wps_setF, wps_lks, wp_bool, wp_tru, wp_notM, wp_andM, wp_orM, wp_ifM, wp_op2, wp_op1, wp_arg, wp_cons, wp_nil, wp_lit, wp_mth, wp_meth, wp_mk, wp_pop, wp_get2, wp_lck, wp_v, wp_ok, wps_ok, List.map_cons, List.map_nil, List.length_cons, List.length_nil, Nat.zero_add, Nat.reduceAdd, Nat.reduceSub, List.replicate_zero, List.replicate_succ, List.cons_append, List.nil_append, List.append_nil, List.getElem?_cons_zero, List.getElem?_cons_succ, List.set_cons_zero, List.set_cons_succ, blF, mtF, opF, cmF, f_add, f_sub, f_mul, f_mod, f_fdiv, f_pow, f_lt, f_le, f_gt, f_ge, f_eqi, f_eqs, f_int, f_neg, upd_heap, upd_next, all_heap, all_next, Bool.false_eq_true, if_true, if_false, decide_eq_true_eq, Nat.sub_self]
    by_cases h2 : z.length ≤ 6
    · have e2 : decide (((z.length : Nat) : Int) ≤ 6) = true := decide_eq_true (by omega)
      obtain ⟨c, r, hc⟩ : ∃ c r, z.cps.toList = c :: r := by
        cases q : z.cps.toList with
        | nil => rw [q] at sz; simp at sz; omega
        | cons c r => exact ⟨c, r, rfl⟩
      have ix : ixF (.str z) (.int 0) s = .ok (.str (sgS c)) s := by
        have : z.length ≤ LINE := by rw [line_is]; omega
        have at0 : atI z.cps.toList 0 = some c := by rw [hc, atI_nat (by decide)]; rfl
        simp only [ixF, at0, this, if_true]
        rfl
      have hd0 : z.cps.toList.headD 0 = c := by rw [hc]; rfl
      simp only [e2, Bool.not_true, ev, wps_seq, wps_if, wps_ret, wps_nx, wps_fl, wps_expr, wps_set, wps_setT, wps_setI, wps_setF, wps_lks, wp_bool, wp_tru, wp_notM, wp_andM, wp_orM, wp_ifM, wp_op2, wp_op1, wp_arg, wp_cons, wp_nil, wp_lit, wp_mth, wp_meth, wp_mk, wp_pop, wp_get2, wp_lck, wp_v, wp_ok, wps_ok, List.map_cons, List.map_nil, List.length_cons, List.length_nil, Nat.zero_add, Nat.reduceAdd, Nat.reduceSub, List.replicate_zero, List.replicate_succ, List.cons_append, List.nil_append, List.append_nil, List.getElem?_cons_zero, List.getElem?_cons_succ, List.set_cons_zero, List.set_cons_succ, blF, mtF, opF, cmF, f_add, f_sub, f_mul, f_mod, f_fdiv, f_pow, f_lt, f_le, f_gt, f_ge, f_eqi, f_eqs, f_int, f_neg, upd_heap, upd_next, all_heap, all_next, Bool.false_eq_true, if_true, if_false, decide_eq_true_eq, Nat.sub_self, ix, inF_str, cmF]
      by_cases h3 : strIn (sgS c) letS = true
      · simp only [h3, Bool.not_true, ev, wps_seq, wps_if, wps_ret, wps_nx, wps_fl, wps_expr, wps_set, wps_setT, wps_setI, wps_setF, wps_lks, wp_bool, wp_tru, wp_notM, wp_andM, wp_orM, wp_ifM, wp_op2, wp_op1, wp_arg, wp_cons, wp_nil, wp_lit, wp_mth, wp_meth, wp_mk, wp_pop, wp_get2, wp_lck, wp_v, wp_ok, wps_ok, List.map_cons, List.map_nil, List.length_cons, List.length_nil, Nat.zero_add, Nat.reduceAdd, Nat.reduceSub, List.replicate_zero, List.replicate_succ, List.cons_append, List.nil_append, List.append_nil, List.getElem?_cons_zero, List.getElem?_cons_succ, List.set_cons_zero, List.set_cons_succ, blF, mtF, opF, cmF, f_add, f_sub, f_mul, f_mod, f_fdiv, f_pow, f_lt, f_le, f_gt, f_ge, f_eqi, f_eqs, f_int, f_neg, upd_heap, upd_next, all_heap, all_next, Bool.false_eq_true, if_true, if_false, decide_eq_true_eq, Nat.sub_self, cmF]
        by_cases h4 : z = "else"
        · have e : isNameS z = false := by unfold isNameS; rw [hd0, h3, decide_eq_true h4]; simp
          have h5 : (z = "else") ↔ True := iff_true_intro h4
          simp only [h5, ev, wps_seq, wps_if, wps_ret, wps_nx, wps_fl, wps_expr, wps_set, wps_setT, wps_setI, wps_setF, wps_lks, wp_bool, wp_tru, wp_notM, wp_andM, wp_orM, wp_ifM, wp_op2, wp_op1, wp_arg, wp_cons, wp_nil, wp_lit, wp_mth, wp_meth, wp_mk, wp_pop, wp_get2, wp_lck, wp_v, wp_ok, wps_ok, List.map_cons, List.map_nil, List.length_cons, List.length_nil, Nat.zero_add, Nat.reduceAdd, Nat.reduceSub, List.replicate_zero, List.replicate_succ, List.cons_append, List.nil_append, List.append_nil, List.getElem?_cons_zero, List.getElem?_cons_succ, List.set_cons_zero, List.set_cons_succ, blF, mtF, opF, cmF, f_add, f_sub, f_mul, f_mod, f_fdiv, f_pow, f_lt, f_le, f_gt, f_ge, f_eqi, f_eqs, f_int, f_neg, upd_heap, upd_next, all_heap, all_next, Bool.false_eq_true, if_true, if_false, decide_eq_true_eq, Nat.sub_self]
          rw [e] at hQ
          rw [gc]
          exact hQ
        · simp only [h4, decide_false, ev, wps_seq, wps_if, wps_ret, wps_nx, wps_fl, wps_expr, wps_set, wps_setT, wps_setI, wps_setF, wps_lks, wp_bool, wp_tru, wp_notM, wp_andM, wp_orM, wp_ifM, wp_op2, wp_op1, wp_arg, wp_cons, wp_nil, wp_lit, wp_mth, wp_meth, wp_mk, wp_pop, wp_get2, wp_lck, wp_v, wp_ok, wps_ok, List.map_cons, List.map_nil, List.length_cons, List.length_nil, Nat.zero_add, Nat.reduceAdd, Nat.reduceSub, List.replicate_zero, List.replicate_succ, List.cons_append, List.nil_append, List.append_nil, List.getElem?_cons_zero, List.getElem?_cons_succ, List.set_cons_zero, List.set_cons_succ, blF, mtF, opF, cmF, f_add, f_sub, f_mul, f_mod, f_fdiv, f_pow, f_lt, f_le, f_gt, f_ge, f_eqi, f_eqs, f_int, f_neg, upd_heap, upd_next, all_heap, all_next, Bool.false_eq_true, if_true, if_false, decide_eq_true_eq, Nat.sub_self]
          refine wp_gen (ds := sigD z) (gd := none) (s1 := s) rfl (fun d => match d with
            | .str y => strIn y letS || strIn y digS
            | _ => false) trivial (fun d hd' => ?_) ?_
          · obtain ⟨k, hk, rfl⟩ := List.mem_map.mp (show d ∈ z.cps.toList.map fun c => D.str (sgS c) from hd')
            refine ⟨_, rfl, ?_⟩
            simp only [wipeE, orV, op2M, varM, litM, bd_ok, List.set_cons_zero, List.set_cons_succ, List.getElem?_cons_zero, List.getElem?_cons_succ, inF_str, Bool.false_eq_true, if_false]
            cases e : strIn (sgS k) letS <;> simp [truD]
          · rw [gc]
            have e : isNameS z = (sigD z).all (fun d => match d with
                | .str y => strIn y letS || strIn y digS
                | _ => false) := by
              unfold isNameS sigD
              rw [hd0, h3, decide_eq_true h1, decide_eq_true h2, decide_eq_false h4, List.all_map]
              rfl
            rw [e] at hQ
            exact hQ
      · have e : isNameS z = false := by unfold isNameS; rw [hd0]; simp [h3]
        simp only [h3, Bool.not_false, ev, wps_seq, wps_if, wps_ret, wps_nx, wps_fl, wps_expr, wps_set, wps_setT, wps_setI, wps_setF, wps_lks, wp_bool, wp_tru, wp_notM, wp_andM, wp_orM, wp_ifM, wp_op2, wp_op1, wp_arg, wp_cons, wp_nil, wp_lit, wp_mth, wp_meth, wp_mk, wp_pop, wp_get2, wp_lck, wp_v, wp_ok, wps_ok, List.map_cons, List.map_nil, List.length_cons, List.length_nil, Nat.zero_add, Nat.reduceAdd, Nat.reduceSub, List.replicate_zero, List.replicate_succ, List.cons_append, List.nil_append, List.append_nil, List.getElem?_cons_zero, List.getElem?_cons_succ, List.set_cons_zero, List.set_cons_succ, blF, mtF, opF, cmF, f_add, f_sub, f_mul, f_mod, f_fdiv, f_pow, f_lt, f_le, f_gt, f_ge, f_eqi, f_eqs, f_int, f_neg, upd_heap, upd_next, all_heap, all_next, Bool.false_eq_true, if_true, if_false, decide_eq_true_eq, Nat.sub_self]
        rw [e] at hQ
        rw [gc]
        exact hQ
    · have e2 : decide (((z.length : Nat) : Int) ≤ 6) = false := decide_eq_false (by omega)
      have e : isNameS z = false := by unfold isNameS; simp [h2]
      simp only [e2, Bool.not_false, ev, wps_seq, wps_if, wps_ret, wps_nx, wps_fl, wps_expr, wps_set, wps_setT, wps_setI, wps_setF, wps_lks, wp_bool, wp_tru, wp_notM, wp_andM, wp_orM, wp_ifM, wp_op2, wp_op1, wp_arg, wp_cons, wp_nil, wp_lit, wp_mth, wp_meth, wp_mk, wp_pop, wp_get2, wp_lck, wp_v, wp_ok, wps_ok, List.map_cons, List.map_nil, List.length_cons, List.length_nil, Nat.zero_add, Nat.reduceAdd, Nat.reduceSub, List.replicate_zero, List.replicate_succ, List.cons_append, List.nil_append, List.append_nil, List.getElem?_cons_zero, List.getElem?_cons_succ, List.set_cons_zero, List.set_cons_succ, blF, mtF, opF, cmF, f_add, f_sub, f_mul, f_mod, f_fdiv, f_pow, f_lt, f_le, f_gt, f_ge, f_eqi, f_eqs, f_int, f_neg, upd_heap, upd_next, all_heap, all_next, Bool.false_eq_true, if_true, if_false, decide_eq_true_eq, Nat.sub_self]
      rw [e] at hQ
      rw [gc]
      exact hQ
  · have e1 : decide ((1 : Int) ≤ (z.length : Nat)) = false := decide_eq_false (by omega)
    have e : isNameS z = false := by unfold isNameS; simp [h1]
    simp only [e1, Bool.not_false, ev, wps_seq, wps_if, wps_ret, wps_nx, wps_fl, wps_expr, wps_set, wps_setT, wps_setI, wps_setF, wps_lks, wp_bool, wp_tru, wp_notM, wp_andM, wp_orM, wp_ifM, wp_op2, wp_op1, wp_arg, wp_cons, wp_nil, wp_lit, wp_mth, wp_meth, wp_mk, wp_pop, wp_get2, wp_lck, wp_v, wp_ok, wps_ok, List.map_cons, List.map_nil, List.length_cons, List.length_nil, Nat.zero_add, Nat.reduceAdd, Nat.reduceSub, List.replicate_zero, List.replicate_succ, List.cons_append, List.nil_append, List.append_nil, List.getElem?_cons_zero, List.getElem?_cons_succ, List.set_cons_zero, List.set_cons_succ, blF, mtF, opF, cmF, f_add, f_sub, f_mul, f_mod, f_fdiv, f_pow, f_lt, f_le, f_gt, f_ge, f_eqi, f_eqs, f_int, f_neg, upd_heap, upd_next, all_heap, all_next, Bool.false_eq_true, if_true, if_false, decide_eq_true_eq, Nat.sub_self]
    rw [e] at hQ
    rw [gc]
    exact hQ
end
end Co
namespace Co
open PySem L2
/-! ### the ordering of moves -/
abbrev Prs := List (Str × Str)
def getS (p : Prs) (k : Str) : Option Str := (p.find? fun q => decide (q.1 = k)).map (·.2)
def putS (p : Prs) (k v : Str) : Prs := if (p.any fun q => decide (q.1 = k)) = true then p.map (fun q => if q.1 = k then (q.1, v) else q) else p ++ [(k, v)]
def dropS (p : Prs) (k : Str) : Prs := p.filter fun q => decide (q.1 ≠ k)
def kd (p : Prs) : List (Key × D) := p.map fun q => (.inr q.1, .str q.2)
def mv (q : Str × Str) : D := .tup [.str q.1, .str q.2]
theorem inr_eq {a b : Str} : (decide ((Sum.inr a : Key) = Sum.inr b)) = decide (a = b) := by
  by_cases h : a = b
  · subst h; simp
  · rw [decide_eq_false h, decide_eq_false fun z => h (Sum.inr.inj z)]
theorem getK_kd {p : Prs} {k : Str} : getK (kd p) (.inr k) = (getS p k).map D.str := by
  unfold getK getS kd
  rw [List.find?_map]
  have e : ((fun kv : Key × D => decide (kv.1 = Sum.inr k)) ∘ fun q : Str × Str => ((Sum.inr q.1 : Key), D.str q.2)) = fun q => decide (q.1 = k) := by
    funext q
    exact inr_eq
  rw [e]
  cases p.find? fun q => decide (q.1 = k) <;> rfl
theorem putD_kd {p : Prs} {k v : Str} : putD (kd p) (.inr k) (.str v) = kd (putS p k v) := by
  unfold putD putS kd
  have e : (p.map fun q => ((Sum.inr q.1 : Key), D.str q.2)).any (fun kv => decide (kv.1 = Sum.inr k)) = p.any fun q => decide (q.1 = k) := by
    rw [List.any_map]
    congr 1
    funext q
    exact inr_eq
  rw [e]
  by_cases h : (p.any fun q => decide (q.1 = k)) = true
  · rw [if_pos h, if_pos h, List.map_map, List.map_map]
    congr 1
    funext q
    show (if (Sum.inr q.1 : Key) = Sum.inr k then ((Sum.inr q.1 : Key), D.str v) else (Sum.inr q.1, D.str q.2)) = _
    by_cases hq : q.1 = k
    · rw [if_pos (by rw [hq])]
      show _ = ((fun q : Str × Str => ((Sum.inr q.1 : Key), D.str q.2)) (if q.1 = k then (q.1, v) else q))
      rw [if_pos hq]
    · rw [if_neg fun z => hq (Sum.inr.inj z)]
      show _ = ((fun q : Str × Str => ((Sum.inr q.1 : Key), D.str q.2)) (if q.1 = k then (q.1, v) else q))
      rw [if_neg hq]
  · rw [if_neg h, if_neg h, List.map_append]
    rfl
/-- the state of an ordering -/
structure Od where
  L : Prs
  P : Prs
  R : List Str
  M : Prs
def ordFs (l p r m : Nat) : List (Str × D) := [("left", .ref l), ("present", .ref p), ("ready", .ref r), ("made", .ref m)]
structure OrdAt (s : S) (o l p r m : Nat) (t : Od) : Prop where
  wf : s.Wf
  ho : s.heap o = some (.ins "Ordering" (ordFs l p r m))
  hl : s.heap l = some (.dK (kd t.L))
  hp : s.heap p = some (.dK (kd t.P))
  hr : s.heap r = some (.lst (t.R.map .str))
  hm : s.heap m = some (.lst (t.M.map mv))
  ne : o ≠ l ∧ o ≠ p ∧ o ≠ r ∧ o ≠ m ∧ l ≠ p ∧ l ≠ r ∧ l ≠ m ∧ p ≠ r ∧ p ≠ m ∧ r ≠ m
  small : t.P.length ≤ 1000 ∧ t.R.length ≤ 1000 ∧ t.M.length ≤ 1000
/-- one move: its source, where that stands -/
def Od.make (t : Od) (d : Str) : Od := match getS t.L d with
  | none => t
  | some s => match getS t.P s with
    | none => t
    | some x => ⟨dropS t.L d, putS t.P s d, if x = s ∧ (getS (dropS t.L d) s).isSome = true then t.R ++ [s] else t.R, t.M ++ [(d, x)]⟩
def Od.part (t : Od) : Od := match t.L with
  | [] => t
  | (d, _) :: _ => ⟨t.L, putS t.P d "t", t.R ++ [d], t.M ++ [(("t" : Str), d)]⟩
theorem below_strs (n : Nat) (p : List Str) : obBelow n (.lst (p.map .str)) := belowL_of fun d hd => by
  obtain ⟨q, _, rfl⟩ := List.mem_map.mp hd
  trivial
theorem below_mvs (n : Nat) (p : Prs) : obBelow n (.lst (p.map mv)) := belowL_of fun d hd => by
  obtain ⟨q, _, rfl⟩ := List.mem_map.mp hd
  exact ⟨trivial, trivial, trivial⟩
theorem putS_len {p : Prs} {k v : Str} : (putS p k v).length ≤ p.length + 1 := by
  unfold putS
  split
  · rw [List.length_map]; omega
  · rw [List.length_append]; exact Nat.le_refl _
section
variable {s : S} {o l p r m : Nat} {t : Od}
/-- what a change of the four parts leaves -/
structure OrdTo (s : S) (o l p r m : Nat) (s' : S) (t' : Od) : Prop where
  at_ : OrdAt s' o l p r m t'
  next : s'.next = s.next
  same : ∀ b, b ≠ l → b ≠ p → b ≠ r → b ≠ m → s'.heap b = s.heap b
end
end Co
namespace Co
open PySem L2
end Co
namespace Co
open PySem L2
/-! ### the theory of ordered moves: pairs, what may be made, what is kept -/
section
variable {p : Prs} {k k' v : Str}
theorem getS_mem (h : getS p k = some v) : (k, v) ∈ p := by
  unfold getS at h
  obtain ⟨q, hq, rfl⟩ := Option.map_eq_some_iff.mp h
  have := List.find?_some hq
  have e : q.1 = k := of_decide_eq_true this
  subst e
  exact List.mem_of_find?_eq_some hq
theorem mem_getS : ∀ {p : Prs} (_ : (p.map (·.1)).Nodup) (_ : (k, v) ∈ p), getS p k = some v
  | (a, b) :: p, n, h => by
    unfold getS
    rw [List.find?_cons]
    by_cases e : a = k
    · simp only [e, decide_true]
      rcases List.mem_cons.mp h with z | z
      · cases z; rfl
      · exfalso
        rw [List.map_cons, List.nodup_cons] at n
        exact n.1 (e ▸ List.mem_map.mpr ⟨_, z, rfl⟩)
    · simp only [e, decide_false]
      rw [List.map_cons, List.nodup_cons] at n
      rcases List.mem_cons.mp h with z | z
      · cases z; exact absurd rfl e
      · exact mem_getS n.2 z
theorem getS_none : getS p k = none ↔ ∀ q ∈ p, q.1 ≠ k := by
  unfold getS
  rw [Option.map_eq_none_iff, List.find?_eq_none]
  exact ⟨fun h q hq e => h q hq (decide_eq_true e), fun h q hq e => h q hq (of_decide_eq_true e)⟩
theorem getS_some_of (h : ∃ q ∈ p, q.1 = k) : ∃ v, getS p k = some v := by
  cases e : getS p k with
  | some v => exact ⟨v, rfl⟩
  | none =>
    obtain ⟨q, hq, z⟩ := h
    exact absurd z (getS_none.mp e q hq)
theorem mem_drop {q : Str × Str} : q ∈ dropS p k ↔ q ∈ p ∧ q.1 ≠ k := by
  unfold dropS
  rw [List.mem_filter, decide_eq_true_eq]
theorem getS_drop : getS (dropS p k) k' = if k' = k then none else getS p k' := by
  by_cases e : k' = k
  · rw [if_pos e, getS_none]
    intro q hq z
    exact (mem_drop.mp hq).2 (z.trans e)
  · rw [if_neg e]
    unfold getS dropS
    rw [List.find?_filter]
    congr 2
    funext q
    by_cases z : q.1 = k'
    · simp [z, e]
    · simp [z]
theorem getS_append {p p' : Prs} : getS (p ++ p') k = (getS p k).or (getS p' k) := by
  unfold getS
  rw [List.find?_append]
  cases p.find? fun q => decide (q.1 = k) <;> rfl
theorem getS_put : getS (putS p k v) k' = if k' = k then some v else getS p k' := by
  unfold putS
  by_cases h : (p.any fun q => decide (q.1 = k)) = true
  · rw [if_pos h]
    obtain ⟨q0, hq0, e0⟩ := List.any_eq_true.mp h
    by_cases e : k' = k
    · subst e
      rw [if_pos rfl]
      clear h
      induction p with
      | nil => cases hq0
      | cons q p ih =>
        unfold getS
        rw [List.map_cons, List.find?_cons]
        by_cases z : q.1 = k'
        · simp [z]
        · simp only [z, if_false, decide_false]
          rcases List.mem_cons.mp hq0 with y | y
          · subst y; exact absurd (of_decide_eq_true e0) z
          · exact ih y
    · rw [if_neg e]
      clear h hq0
      induction p with
      | nil => rfl
      | cons q p ih =>
        unfold getS at ih ⊢
        rw [List.map_cons, List.find?_cons, List.find?_cons]
        by_cases z : q.1 = k
        · have z' : ¬ q.1 = k' := fun y => e (y.symm.trans z)
          have z2 : ¬ k = k' := fun y => e y.symm
          simp only [z, if_true, z2, decide_false]
          exact ih
        · simp only [z, if_false]
          by_cases y : q.1 = k'
          · simp [y]
          · simp only [y, decide_false]; exact ih
  · rw [if_neg h, getS_append]
    have hn : getS p k = none := getS_none.mpr fun q hq z => h (List.any_eq_true.mpr ⟨q, hq, decide_eq_true z⟩)
    by_cases e : k' = k
    · subst e
      rw [if_pos rfl, hn]
      simp [getS]
    · rw [if_neg e]
      have : getS [(k, v)] k' = none := getS_none.mpr fun q hq z => e (by rw [List.mem_singleton.mp hq] at z; exact z.symm)
      rw [this]
      cases getS p k' <;> rfl
theorem drop_nodup (h : (p.map (·.1)).Nodup) : ((dropS p k).map (·.1)).Nodup := h.sublist (List.filter_sublist.map _)
theorem drop_len : ∀ {p : Prs} (_ : (p.map (·.1)).Nodup) (_ : getS p k = some v), (dropS p k).length + 1 = p.length
  | [], _, h => by cases h
  | (a, b) :: p, n, h => by
    rw [List.map_cons, List.nodup_cons] at n
    unfold dropS
    by_cases e : a = k
    · subst e
      have : p.filter (fun q => decide (q.1 ≠ a)) = p := List.filter_eq_self.mpr fun q hq => decide_eq_true fun z => n.1 (z ▸ List.mem_map.mpr ⟨_, hq, rfl⟩)
      rw [List.filter_cons, if_neg (by simp), this, List.length_cons]
    · have h' : getS p k = some v := by
        unfold getS at h ⊢
        rw [List.find?_cons] at h
        simpa [e] using h
      have := drop_len n.2 h'
      unfold dropS at this
      rw [List.filter_cons, if_pos (by simpa using e), List.length_cons, List.length_cons]
      omega
end
/-- n names amid n values: each value is a name, and none comes twice -/
theorem pigeon : ∀ (K V : List Str), K.Nodup → (∀ k ∈ K, k ∈ V) → V.length ≤ K.length → V.Nodup ∧ ∀ v ∈ V, v ∈ K
  | [], V, _, _, h => by
    have : V = [] := List.eq_nil_of_length_eq_zero (by simpa using h)
    subst this
    exact ⟨List.nodup_nil, fun v hv => hv⟩
  | k :: K, V, n, h, l => by
    rw [List.nodup_cons] at n
    have hk := h k List.mem_cons_self
    obtain ⟨n1, n2⟩ := pigeon K (V.erase k) n.2 (fun x hx => (List.mem_erase_of_ne fun e : x = k => n.1 (e ▸ hx)).mpr (h x (List.mem_cons_of_mem _ hx))) (by
      rw [List.length_erase_of_mem hk]; rw [List.length_cons] at l; omega)
    have pm := List.perm_cons_erase hk
    refine ⟨pm.symm.nodup (List.nodup_cons.mpr ⟨fun z => n.1 (n2 _ z), n1⟩), fun v hv => ?_⟩
    rcases List.mem_cons.mp (pm.mem_iff.mp hv) with z | z
    · exact z ▸ List.mem_cons_self
    · exact List.mem_cons_of_mem _ (n2 v z)
/-- a state that may go on -/
structure Good (t : Od) : Prop where
  kn : (t.L.map (·.1)).Nodup
  rk : ∀ r ∈ t.R, ∃ s, getS t.L r = some s
  rn : t.R.Nodup
  pd : ∀ q ∈ t.L, ∃ x, getS t.P q.2 = some x
  rb : ∀ r ∈ t.R, ∀ q ∈ t.L, q.2 = r → getS t.P r ≠ some r
  ne : ∀ q ∈ t.L, q.1 ≠ q.2
  nt : ∀ q ∈ t.L, q.1 ≠ "t"
  ra : ∀ q ∈ t.L, q.1 ∉ t.R → (∃ q' ∈ t.L, q'.2 = q.1) ∧ getS t.P q.1 = some q.1
  pc : ∀ q ∈ t.L, ∀ x, getS t.P q.2 = some x → x ≠ q.2 → ∀ q' ∈ t.L, q'.1 ≠ x
def Od.pop (t : Od) : Od := match t.R with
  | [] => t
  | d :: R => (⟨t.L, t.P, R, t.M⟩ : Od).make d
def Od.mid (t : Od) : Od := if t.R = [] then t.part else t
def Od.step (t : Od) : Od := t.mid.pop
def Od.run : Nat → Od → Od
  | 0, t => t
  | n + 1, t => if t.L = [] then t else t.step.run n
/-- what one move makes of a good state -/
structure Made (t : Od) (d src x : Str) (R' : List Str) (t' : Od) : Prop where
  hR : t.R = d :: R'
  hs : getS t.L d = some src
  hx : getS t.P src = some x
  eq : t' = ⟨dropS t.L d, putS t.P src d, if x = src ∧ (getS (dropS t.L d) src).isSome = true then R' ++ [src] else R', t.M ++ [(d, x)]⟩
theorem Good.pop {t : Od} (g : Good t) (hR : t.R ≠ []) : ∃ d src x R', Made t d src x R' t.pop := by
  cases e : t.R with
  | nil => exact absurd e hR
  | cons d R' =>
    obtain ⟨src, hs⟩ := g.rk d (by rw [e]; exact List.mem_cons_self)
    obtain ⟨x, hx⟩ := g.pd _ (getS_mem hs)
    refine ⟨d, src, x, R', e, hs, hx, ?_⟩
    unfold Od.pop
    rw [e]
    simp only [Od.make, hs, hx]
theorem Good.made {t t' : Od} (g : Good t) {d src x : Str} {R' : List Str} (m : Made t d src x R' t') : Good t' := by
  obtain ⟨hR, hs, hx, rfl⟩ := m
  have mS := getS_mem hs
  have dne : d ≠ src := g.ne _ mS
  have rn := g.rn
  rw [hR, List.nodup_cons] at rn
  have sub : ∀ q ∈ dropS t.L d, q ∈ t.L ∧ q.1 ≠ d := fun q h => mem_drop.mp h
  have dR : d ∈ t.R := by rw [hR]; exact List.mem_cons_self
  have up : ∀ r ∈ R', r ∈ t.R := fun r h => by rw [hR]; exact List.mem_cons_of_mem _ h
  -- the source is not amid the ready, where it is at home
  have nsrc : x = src → src ∉ t.R := fun e z => g.rb src z _ mS rfl (by rw [hx, e])
  have memR : ∀ r, r ∈ (if x = src ∧ (getS (dropS t.L d) src).isSome = true then R' ++ [src] else R') → r ∈ R' ∨ (r = src ∧ x = src ∧ (getS (dropS t.L d) src).isSome = true) := by
    intro r h
    split at h
    · rename_i c
      rcases List.mem_append.mp h with z | z
      · exact .inl z
      · exact .inr ⟨List.mem_singleton.mp z, c⟩
    · exact .inl h
  refine ⟨drop_nodup g.kn, fun r h => ?_, ?_, fun q h => ?_, fun r h q hq e => ?_, fun q h => g.ne q (sub q h).1, fun q h => g.nt q (sub q h).1, fun q h hn => ?_, fun q h y hy hne q' hq' => ?_⟩
  · rcases memR r h with z | ⟨rfl, _, c⟩
    · obtain ⟨s, es⟩ := g.rk r (up r z)
      exact ⟨s, by show getS (dropS t.L d) r = some s; rw [getS_drop, if_neg fun e => rn.1 (by rw [← e]; exact z)]; exact es⟩
    · exact Option.isSome_iff_exists.mp c
  · show (if x = src ∧ (getS (dropS t.L d) src).isSome = true then R' ++ [src] else R').Nodup
    split
    · rename_i c
      rw [List.nodup_append]
      refine ⟨rn.2, List.nodup_cons.mpr ⟨by simp, List.nodup_nil⟩, fun a ha b hb e => ?_⟩
      rw [List.mem_singleton] at hb
      exact nsrc c.1 (up _ (by rw [← hb, ← e]; exact ha))
    · exact rn.2
  · obtain ⟨y, hy⟩ := g.pd q (sub q h).1
    show ∃ x, getS (putS t.P src d) q.2 = some x
    rw [getS_put]
    split
    · exact ⟨_, rfl⟩
    · exact ⟨y, hy⟩
  · show getS (putS t.P src d) r ≠ some r
    rw [getS_put]
    split
    · rename_i c
      rw [c]
      exact fun z => dne (Option.some.inj z)
    · rename_i c
      rcases memR r h with z | ⟨z, _⟩
      · exact g.rb r (up r z) q (sub q hq).1 e
      · exact absurd z c
  · obtain ⟨hq, hqd⟩ := sub q h
    have hnR : q.1 ∉ t.R := fun z => by
      rw [hR] at z
      rcases List.mem_cons.mp z with z | z
      · exact hqd z
      · refine hn ?_
        show q.1 ∈ (if x = src ∧ (getS (dropS t.L d) src).isSome = true then R' ++ [src] else R')
        split
        · exact List.mem_append_left _ z
        · exact z
    obtain ⟨⟨q', hq', e'⟩, hP⟩ := g.ra q hq hnR
    have ns : q.1 ≠ src := fun e => by
      have ex : x = src := by rw [e, hx] at hP; exact Option.some.inj hP
      refine hn ?_
      show q.1 ∈ (if x = src ∧ (getS (dropS t.L d) src).isSome = true then R' ++ [src] else R')
      rw [if_pos ⟨ex, by
        obtain ⟨v, hv⟩ := getS_some_of (p := dropS t.L d) (k := src) ⟨q, h, e⟩
        rw [hv]; rfl⟩, e]
      exact List.mem_append_right _ (List.mem_singleton.mpr rfl)
    refine ⟨⟨q', mem_drop.mpr ⟨hq', fun z => ?_⟩, e'⟩, ?_⟩
    · have e2 : getS t.L q'.1 = some q'.2 := mem_getS g.kn hq'
      rw [z, hs] at e2
      exact ns (e'.symm.trans (Option.some.inj e2).symm)
    · show getS (putS t.P src d) q.1 = some q.1
      rw [getS_put, if_neg ns]
      exact hP
  · obtain ⟨hq, _⟩ := sub q h
    have hy : getS (putS t.P src d) q.2 = some y := hy
    rw [getS_put] at hy
    split at hy
    · cases hy
      exact (sub q' hq').2
    · exact g.pc q hq y hy hne q' (sub q' hq').1
/-- none ready: what is left only rotates -/
theorem Good.perm {t : Od} (g : Good t) (hR : t.R = []) : (t.L.map (·.2)).Nodup ∧ (∀ q ∈ t.L, ∃ q' ∈ t.L, q'.1 = q.2) ∧ (∀ q ∈ t.L, ∃ q' ∈ t.L, q'.2 = q.1) ∧ ∀ q ∈ t.L, getS t.P q.2 = some q.2 := by
  have a := fun q (h : q ∈ t.L) => g.ra q h (by rw [hR]; simp)
  obtain ⟨n, i⟩ := pigeon (t.L.map (·.1)) (t.L.map (·.2)) g.kn (fun k hk => by
    obtain ⟨q, hq, rfl⟩ := List.mem_map.mp hk
    obtain ⟨⟨q', h1, h2⟩, _⟩ := a q hq
    exact List.mem_map.mpr ⟨q', h1, h2⟩) (by rw [List.length_map, List.length_map]; exact Nat.le_refl _)
  have b : ∀ q ∈ t.L, ∃ q' ∈ t.L, q'.1 = q.2 := fun q h => List.mem_map.mp (i q.2 (List.mem_map.mpr ⟨q, h, rfl⟩))
  refine ⟨n, b, fun q h => (a q h).1, fun q h => ?_⟩
  obtain ⟨q', h1, h2⟩ := b q h
  rw [← h2]
  exact (a q' h1).2
theorem Good.part {t : Od} (g : Good t) (hR : t.R = []) {d src : Str} {L' : Prs} (hL : t.L = (d, src) :: L') : t.part = ⟨t.L, putS t.P d "t", [d], t.M ++ [(("t" : Str), d)]⟩ ∧ Good t.part := by
  have e : t.part = ⟨t.L, putS t.P d "t", [d], t.M ++ [(("t" : Str), d)]⟩ := by
    unfold Od.part
    rw [hL, hR]
    rfl
  have m : (d, src) ∈ t.L := by rw [hL]; exact List.mem_cons_self
  have dt : d ≠ "t" := g.nt _ m
  obtain ⟨_, _, _, at_⟩ := g.perm hR
  refine ⟨e, ?_⟩
  rw [e]
  refine ⟨g.kn, fun r h => ?_, List.nodup_cons.mpr ⟨by simp, List.nodup_nil⟩, fun q h => ?_, fun r h q hq e => ?_, g.ne, g.nt, fun q h hn => ?_, fun q h y hy hne q' hq' => ?_⟩
  · rw [List.mem_singleton.mp h]
    exact ⟨src, mem_getS g.kn m⟩
  · show ∃ x, getS (putS t.P d "t") q.2 = some x
    rw [getS_put]
    split
    · exact ⟨_, rfl⟩
    · exact g.pd q h
  · rw [List.mem_singleton.mp h]
    show getS (putS t.P d "t") d ≠ some d
    rw [getS_put, if_pos rfl]
    exact fun z => dt (Option.some.inj z).symm
  · have qd : q.1 ≠ d := fun z => hn (by rw [z]; exact List.mem_singleton.mpr rfl)
    obtain ⟨h1, h2⟩ := g.ra q h (by rw [hR]; simp)
    refine ⟨h1, ?_⟩
    show getS (putS t.P d "t") q.1 = some q.1
    rw [getS_put, if_neg qd]
    exact h2
  · have hy : getS (putS t.P d "t") q.2 = some y := hy
    rw [getS_put] at hy
    split at hy
    · cases hy
      exact g.nt q' hq'
    · exact absurd (Option.some.inj ((at_ q h).symm.trans hy)).symm hne
/-! ### what the places hold -/
def putC {β : Type} (c : Str → β) (q : Str × Str) : Str → β := fun y => if y = q.1 then c q.2 else c y
def conts {β : Type} (f : Str → β) (m : Prs) : Str → β := m.foldl putC f
theorem conts_snoc {β : Type} {f : Str → β} {m : Prs} {q : Str × Str} : conts f (m ++ [q]) = putC (conts f m) q := by
  unfold conts
  rw [List.foldl_append]
  rfl
structure Holds {β : Type} (f : Str → β) (L0 : Prs) (t : Od) : Prop where
  i1 : ∀ q ∈ t.L, ∀ x, getS t.P q.2 = some x → conts f t.M x = f q.2
  i2 : ∀ q ∈ t.L, conts f t.M q.1 = f q.1
  i3 : ∀ d : Str, d ≠ "t" → getS t.L d = none → conts f t.M d = f ((getS L0 d).getD d)
  sub : ∀ q ∈ t.L, getS L0 q.1 = some q.2
theorem Holds.made {β : Type} {f : Str → β} {L0 : Prs} {t t' : Od} (g : Good t) (h : Holds f L0 t) {d src x : Str} {R' : List Str} (m : Made t d src x R' t') : Holds f L0 t' := by
  obtain ⟨hR, hs, hx, rfl⟩ := m
  have mS := getS_mem hs
  have sub : ∀ q ∈ dropS t.L d, q ∈ t.L ∧ q.1 ≠ d := fun q h => mem_drop.mp h
  have dR : d ∈ t.R := by rw [hR]; exact List.mem_cons_self
  have cx : conts f t.M x = f src := h.i1 _ mS x hx
  refine ⟨fun q hq y hy => ?_, fun q hq => ?_, fun e he hn => ?_, fun q hq => h.sub q (sub q hq).1⟩
  · replace hq := (sub q hq).1
    replace hy : getS (putS t.P src d) q.2 = some y := hy
    show conts f (t.M ++ [(d, x)]) y = f q.2
    rw [conts_snoc]
    unfold putC
    rw [getS_put] at hy
    split at hy
    · rename_i c
      cases hy
      rw [if_pos rfl, c]
      exact cx
    · have yd : y ≠ d := fun z => by
        subst z
        by_cases c : y = q.2
        · exact g.rb y dR q hq c.symm (by rw [c] at hy ⊢; exact hy)
        · exact g.pc q hq y hy c _ mS rfl
      rw [if_neg yd]
      exact h.i1 q hq y hy
  · show conts f (t.M ++ [(d, x)]) q.1 = f q.1
    rw [conts_snoc]
    unfold putC
    rw [if_neg (sub q hq).2]
    exact h.i2 q (sub q hq).1
  · show conts f (t.M ++ [(d, x)]) e = _
    rw [conts_snoc]
    unfold putC
    by_cases c : e = d
    · subst c
      rw [if_pos rfl, h.sub _ mS]
      exact cx
    · rw [if_neg c]
      refine h.i3 e he ?_
      have hn : getS (dropS t.L d) e = none := hn
      rwa [getS_drop, if_neg c] at hn
theorem Holds.part {β : Type} {f : Str → β} {L0 : Prs} {t : Od} (g : Good t) (h : Holds f L0 t) (hR : t.R = []) {d src : Str} {L' : Prs} (hL : t.L = (d, src) :: L') : Holds f L0 t.part := by
  rw [(g.part hR hL).1]
  have m : (d, src) ∈ t.L := by rw [hL]; exact List.mem_cons_self
  obtain ⟨nd, b, _, at_⟩ := g.perm hR
  refine ⟨fun q hq y hy => ?_, fun q hq => ?_, fun e he hn => ?_, h.sub⟩
  · have hy : getS (putS t.P d "t") q.2 = some y := hy
    show conts f (t.M ++ [(("t" : Str), d)]) y = f q.2
    rw [conts_snoc]
    unfold putC
    rw [getS_put] at hy
    split at hy
    · rename_i c
      cases hy
      rw [if_pos rfl, c]
      exact h.i2 _ m
    · have e := Option.some.inj ((at_ q hq).symm.trans hy)
      obtain ⟨q', hq', e'⟩ := b q hq
      rw [if_neg (by rw [← e, ← e']; exact g.nt q' hq')]
      exact h.i1 q hq y hy
  · show conts f (t.M ++ [(("t" : Str), d)]) q.1 = f q.1
    rw [conts_snoc]
    unfold putC
    rw [if_neg (g.nt q hq)]
    exact h.i2 q hq
  · show conts f (t.M ++ [(("t" : Str), d)]) e = _
    rw [conts_snoc]
    unfold putC
    rw [if_neg he]
    exact h.i3 e he hn
end Co
namespace Co
open PySem L2
/-! ### rings of moves, how many parts there are -/
def growS (L : Prs) : Nat → List Str → List Str
  | 0, C => C
  | n + 1, C => match C.getLast? with
    | none => C
    | some e => match getS L e with
      | none => C
      | some y => if y ∉ C ∧ C.length < 12 then growS L n (C ++ [y]) else C
inductive Ch (L : Prs) (k : Str) : List Str → Str → Prop
  | one : Ch L k [k] k
  | snoc {C : List Str} {e y : Str} : Ch L k C e → getS L e = some y → y ∉ C → Ch L k (C ++ [y]) y
section
variable {L : Prs} {k : Str}
theorem Ch.last {C : List Str} {e : Str} (h : Ch L k C e) : C.getLast? = some e := by
  cases h with
  | one => rfl
  | snoc h1 h2 h3 => rw [List.getLast?_append]; rfl
theorem Ch.mem {C : List Str} {e : Str} (h : Ch L k C e) : e ∈ C := List.mem_of_getLast? h.last
theorem Ch.first {C : List Str} {e : Str} (h : Ch L k C e) : k ∈ C := by
  induction h with
  | one => exact List.mem_singleton.mpr rfl
  | snoc _ _ _ ih => exact List.mem_append_left _ ih
theorem Ch.nodup {C : List Str} {e : Str} (h : Ch L k C e) : C.Nodup := by
  induction h with
  | one => exact List.nodup_cons.mpr ⟨by simp, List.nodup_nil⟩
  | snoc _ _ hn ih =>
    rw [List.nodup_append]
    refine ⟨ih, List.nodup_cons.mpr ⟨by simp, List.nodup_nil⟩, fun a ha b hb e => ?_⟩
    rw [List.mem_singleton] at hb
    exact hn (by rw [← hb, ← e]; exact ha)
/-- from any of them on to the last -/
theorem Ch.on {C : List Str} {e d : Str} (h : Ch L k C e) (S : Str → Prop) (cl : ∀ a b, S a → getS L a = some b → S b) (hd : d ∈ C) (sd : S d) : S e := by
  induction h with
  | one => rw [← List.mem_singleton.mp hd]; exact sd
  | snoc h1 h2 h3 ih =>
    rcases List.mem_append.mp hd with z | z
    · exact cl _ _ (ih z) h2
    · rw [← List.mem_singleton.mp z]; exact sd
theorem Ch.all {C : List Str} {e : Str} (h : Ch L k C e) (S : Str → Prop) (cl : ∀ a b, S a → getS L a = some b → S b) (sk : S k) : ∀ c ∈ C, S c := by
  induction h with
  | one => intro c hc; rw [List.mem_singleton.mp hc]; exact sk
  | snoc h1 h2 h3 ih =>
    intro c hc
    rcases List.mem_append.mp hc with z | z
    · exact ih c z
    · rw [List.mem_singleton.mp z]; exact cl _ _ (ih _ h1.mem) h2
theorem Ch.img {C : List Str} {e : Str} (h : Ch L k C e) : ∀ c ∈ C, c = e ∨ ∃ b ∈ C, getS L c = some b := by
  induction h with
  | one => intro c hc; exact .inl (List.mem_singleton.mp hc)
  | snoc h1 h2 h3 ih =>
    intro c hc
    rcases List.mem_append.mp hc with z | z
    · rcases ih c z with rfl | ⟨b, hb, e'⟩
      · exact .inr ⟨_, List.mem_append_right _ (List.mem_singleton.mpr rfl), h2⟩
      · exact .inr ⟨b, List.mem_append_left _ hb, e'⟩
    · exact .inl (List.mem_singleton.mp z)
theorem Ch.pre {C : List Str} {e : Str} (h : Ch L k C e) : ∀ c ∈ C, c = k ∨ ∃ b ∈ C, b ≠ e ∧ getS L b = some c := by
  induction h with
  | one => intro c hc; exact .inl (List.mem_singleton.mp hc)
  | snoc h1 h2 h3 ih =>
    intro c hc
    rcases List.mem_append.mp hc with z | z
    · rcases ih c z with rfl | ⟨b, hb, _, e'⟩
      · exact .inl rfl
      · exact .inr ⟨b, List.mem_append_left _ hb, fun w => h3 (by rw [← w]; exact hb), e'⟩
    · rw [List.mem_singleton.mp z]
      exact .inr ⟨_, List.mem_append_left _ h1.mem, fun w => h3 (by rw [← w]; exact h1.mem), h2⟩
theorem Ch.keys {C : List Str} {e : Str} (h : Ch L k C e) : C.length ≤ L.length + 1 := by
  have key : ∃ C' : List Str, (∀ c ∈ C', c ∈ L.map (·.1)) ∧ C'.Nodup ∧ C.length = C'.length + 1 := by
    cases h with
    | one => exact ⟨[], by simp, List.nodup_nil, rfl⟩
    | @snoc C e y h1 h2 h3 =>
      refine ⟨C, fun c hc => ?_, h1.nodup, by simp⟩
      rcases h1.img c hc with rfl | ⟨b, _, e'⟩
      · exact List.mem_map.mpr ⟨_, getS_mem h2, rfl⟩
      · exact List.mem_map.mpr ⟨_, getS_mem e', rfl⟩
  obtain ⟨C', h1, h2, h3⟩ := key
  by_cases l : C'.length ≤ L.length
  · omega
  · exfalso
    obtain ⟨_, h5⟩ := pigeon C' (L.map (·.1)) h2 h1 (by rw [List.length_map]; omega)
    have h6 : ∀ (A B : List Str), A.Nodup → (∀ a ∈ A, a ∈ B) → A.length ≤ B.length := by
      intro A
      induction A with
      | nil => intro B _ _; exact Nat.zero_le _
      | cons a A ih =>
        intro B n h
        rw [List.nodup_cons] at n
        have := ih (B.erase a) n.2 fun x hx => (List.mem_erase_of_ne fun e : x = a => n.1 (e ▸ hx)).mpr (h x (List.mem_cons_of_mem _ hx))
        have ha := h a List.mem_cons_self
        rw [List.length_erase_of_mem ha] at this
        have := List.length_pos_of_mem ha
        rw [List.length_cons]
        omega
    have := h6 C' _ h2 h1
    rw [List.length_map] at this
    omega
theorem grow_ch (hL : L.length ≤ 10) : ∀ (n : Nat) {C : List Str} {e : Str}, Ch L k C e → 12 ≤ n + C.length → ∃ e', Ch L k (growS L n C) e' ∧ ∀ y, getS L e' = some y → y ∈ growS L n C
  | 0, C, e, h, hn => by have := h.keys; omega
  | n + 1, C, e, h, hn => by
    unfold growS
    rw [h.last]
    simp only
    cases hy : getS L e with
    | none => exact ⟨e, h, fun y z => by rw [hy] at z; cases z⟩
    | some y =>
      simp only
      by_cases c : y ∉ C ∧ C.length < 12
      · rw [if_pos c]
        exact grow_ch hL n (h.snoc hy c.1) (by rw [List.length_append, List.length_singleton]; omega)
      · rw [if_neg c]
        refine ⟨e, h, fun y' z => ?_⟩
        rw [hy] at z; cases z
        have := h.keys
        by_cases z : y ∈ C
        · exact z
        · exact absurd ⟨z, by omega⟩ c
def ringS (L : Prs) (k : Str) : List Str := growS L 12 [k]
/-- k lies on a ring -/
def isRing (L : Prs) (k : Str) : Prop := ∃ e, (ringS L k).getLast? = some e ∧ getS L e = some k
theorem ring_ch (hL : L.length ≤ 10) (k : Str) : ∃ e, Ch L k (ringS L k) e ∧ ∀ y, getS L e = some y → y ∈ ringS L k := grow_ch hL 12 .one (by simp)
theorem isRing_ch (hL : L.length ≤ 10) (h : isRing L k) : ∃ e, Ch L k (ringS L k) e ∧ getS L e = some k := by
  obtain ⟨e, h1, _⟩ := ring_ch hL k
  obtain ⟨e', h2, h3⟩ := h
  rw [h1.last] at h2
  cases h2
  exact ⟨e, h1, h3⟩
theorem isRing.all (hL : L.length ≤ 10) (h : isRing L k) (S : Str → Prop) (cl : ∀ a b, S a → getS L a = some b → S b) {d : Str} (hd : d ∈ ringS L k) (sd : S d) : ∀ c ∈ ringS L k, S c := by
  obtain ⟨e, h1, h2⟩ := isRing_ch hL h
  exact h1.all S cl (cl _ _ (h1.on S cl hd sd) h2)
theorem isRing.img (hL : L.length ≤ 10) (h : isRing L k) {c : Str} (hc : c ∈ ringS L k) : ∃ b ∈ ringS L k, getS L c = some b := by
  obtain ⟨e, h1, h2⟩ := isRing_ch hL h
  rcases h1.img c hc with rfl | z
  · exact ⟨k, h1.first, h2⟩
  · exact z
theorem isRing.pre (hL : L.length ≤ 10) (h : isRing L k) {c : Str} (hc : c ∈ ringS L k) : ∃ b ∈ ringS L k, getS L b = some c := by
  obtain ⟨e, h1, h2⟩ := isRing_ch hL h
  rcases h1.pre c hc with rfl | ⟨b, hb, _, z⟩
  · exact ⟨e, h1.mem, h2⟩
  · exact ⟨b, hb, z⟩
theorem ring_self : k ∈ ringS L k := by
  have : ∀ (n : Nat) (C : List Str), k ∈ C → k ∈ growS L n C := by
    intro n
    induction n with
    | zero => exact fun C h => h
    | succ n ih =>
      intro C h
      unfold growS
      split
      · exact h
      · split
        · exact h
        · split
          · exact ih _ (List.mem_append_left _ h)
          · exact h
  exact this _ _ (List.mem_singleton.mpr rfl)
/-- rings that meet are one -/
theorem isRing.same (hL : L.length ≤ 10) {k1 k2 : Str} (h1 : isRing L k1) (h2 : isRing L k2) {d : Str} (d1 : d ∈ ringS L k1) (d2 : d ∈ ringS L k2) : ∀ c ∈ ringS L k2, c ∈ ringS L k1 :=
  h2.all hL (· ∈ ringS L k1) (fun a b ha hb => by
    obtain ⟨b', h3, h4⟩ := h1.img hL ha
    rw [hb] at h4; cases h4
    exact h3) d2 d1
open Classical in
/-- one of each ring -/
noncomputable def repsS (L : Prs) : List Str → List Str → List Str
  | [], _ => []
  | k :: ks, seen => if isRing L k ∧ k ∉ seen then k :: repsS L ks (seen ++ ringS L k) else repsS L ks seen
def Un (L : Prs) (seen : List Str) : Prop := ∀ k, isRing L k → ∀ c ∈ ringS L k, c ∈ seen → ∀ c' ∈ ringS L k, c' ∈ seen
theorem Un.add (hL : L.length ≤ 10) {seen : List Str} (u : Un L seen) (h : isRing L k) : Un L (seen ++ ringS L k) := fun k' h' c hc hs c' hc' => by
  rcases List.mem_append.mp hs with z | z
  · exact List.mem_append_left _ (u k' h' c hc z c' hc')
  · exact List.mem_append_right _ (h.same hL h' z hc c' hc')
theorem reps_ring : ∀ {ks seen : List Str}, ∀ k ∈ repsS L ks seen, isRing L k
  | [], _, k, h => by cases h
  | a :: ks, seen, k, h => by
    unfold repsS at h
    split at h
    · rename_i c
      rcases List.mem_cons.mp h with rfl | z
      · exact c.1
      · exact reps_ring k z
    · exact reps_ring k h
theorem reps_none (hL : L.length ≤ 10) {d : Str} : ∀ {ks seen : List Str}, Un L seen → d ∈ seen → (repsS L ks seen).countP (fun k => decide (d ∈ ringS L k)) = 0
  | [], _, _, _ => rfl
  | a :: ks, seen, u, hd => by
    unfold repsS
    split
    · rename_i c
      rw [List.countP_cons, reps_none hL (u.add hL c.1) (List.mem_append_left _ hd)]
      have : d ∉ ringS L a := fun z => c.2 (u a c.1 d z hd a ring_self)
      simp [this]
    · exact reps_none hL u hd
theorem reps_one (hL : L.length ≤ 10) {d : Str} (hr : isRing L d) : ∀ {ks seen : List Str}, Un L seen → d ∉ seen → d ∈ ks → (repsS L ks seen).countP (fun k => decide (d ∈ ringS L k)) = 1
  | a :: ks, seen, u, hd, hk => by
    unfold repsS
    split
    · rename_i c
      by_cases z : d ∈ ringS L a
      · rw [List.countP_cons, reps_none hL (u.add hL c.1) (List.mem_append_right _ z)]
        simp [z]
      · have da : d ≠ a := fun e => z (by rw [e]; exact ring_self)
        have dk : d ∈ ks := (List.mem_cons.mp hk).resolve_left da
        rw [List.countP_cons, reps_one hL hr (u.add hL c.1) (fun w => (List.mem_append.mp w).elim hd z) dk]
        simp [z]
    · rename_i c
      have da : d ≠ a := fun e => c ⟨e ▸ hr, e ▸ hd⟩
      exact reps_one hL hr u hd ((List.mem_cons.mp hk).resolve_left da)
end
/-! ### the rings that are yet to be parted -/
def Alive (L0 : Prs) (t : Od) (k : Str) : Prop := (∀ c ∈ ringS L0 k, (∃ q ∈ t.L, q.1 = c) ∧ c ∉ t.R) ∧ ∀ q ∈ t.L, q.2 ∈ ringS L0 k → q.1 ∈ ringS L0 k
open Classical in
noncomputable def yet (L0 : Prs) (Ks : List Str) (t : Od) : Nat := (repsS L0 Ks []).countP fun k => decide (Alive L0 t k)
section
variable {L0 : Prs} {t : Od}
theorem alive_made {t' : Od} (g : Good t) {d src x : Str} {R' : List Str} (m : Made t d src x R' t') {k : Str} : Alive L0 t' k ↔ Alive L0 t k := by
  obtain ⟨hR, hs, hx, rfl⟩ := m
  have mS := getS_mem hs
  have sub : ∀ q ∈ dropS t.L d, q ∈ t.L ∧ q.1 ≠ d := fun q h => mem_drop.mp h
  have dR : d ∈ t.R := by rw [hR]; exact List.mem_cons_self
  have up : ∀ r ∈ R', r ∈ t.R := fun r h => by rw [hR]; exact List.mem_cons_of_mem _ h
  constructor
  · intro ⟨h1, h2⟩
    have h1' : ∀ c ∈ ringS L0 k, (∃ q ∈ t.L, q.1 = c) ∧ c ≠ d ∧ c ∉ t.R := fun c hc => by
      obtain ⟨⟨q, hq, e⟩, hn⟩ := h1 c hc
      obtain ⟨a, b⟩ := sub q hq
      refine ⟨⟨q, a, e⟩, by rw [← e]; exact b, fun z => ?_⟩
      rw [hR] at z
      rcases List.mem_cons.mp z with z | z
      · exact b (e.trans z)
      · refine hn ?_
        show c ∈ (if x = src ∧ (getS (dropS t.L d) src).isSome = true then R' ++ [src] else R')
        split
        · exact List.mem_append_left _ z
        · exact z
    refine ⟨fun c hc => ⟨(h1' c hc).1, (h1' c hc).2.2⟩, fun q hq hc => ?_⟩
    by_cases qd : q.1 = d
    · exfalso
      have e2 : getS t.L q.1 = some q.2 := mem_getS g.kn hq
      rw [qd, hs] at e2
      have e3 : src = q.2 := Option.some.inj e2
      rw [← e3] at hc
      obtain ⟨⟨q', hq', e'⟩, hn⟩ := h1 src hc
      obtain ⟨b1, b2, b3⟩ := h1' src hc
      have hP := (g.ra q' (sub q' hq').1 (by rw [e']; exact b3)).2
      rw [e', hx] at hP
      refine hn ?_
      show src ∈ (if x = src ∧ (getS (dropS t.L d) src).isSome = true then R' ++ [src] else R')
      obtain ⟨v, hv⟩ := getS_some_of (p := dropS t.L d) (k := src) ⟨q', hq', e'⟩
      rw [if_pos ⟨Option.some.inj hP, by rw [hv]; rfl⟩]
      exact List.mem_append_right _ (List.mem_singleton.mpr rfl)
    · exact h2 q (mem_drop.mpr ⟨hq, qd⟩) hc
  · intro ⟨h1, h2⟩
    refine ⟨fun c hc => ?_, fun q hq hc => h2 q (sub q hq).1 hc⟩
    obtain ⟨⟨q, hq, e⟩, hn⟩ := h1 c hc
    refine ⟨⟨q, mem_drop.mpr ⟨hq, fun z => hn (by rw [← e, z]; exact dR)⟩, e⟩, fun z => ?_⟩
    have z : c ∈ (if x = src ∧ (getS (dropS t.L d) src).isSome = true then R' ++ [src] else R') := z
    split at z
    · rcases List.mem_append.mp z with z | z
      · exact hn (up c z)
      · rw [List.mem_singleton.mp z] at hc
        exact (h1 d (h2 _ mS hc)).2 dR
    · exact hn (up c z)
theorem alive_part (hL : L0.length ≤ 10) (g : Good t) (hsub : ∀ q ∈ t.L, getS L0 q.1 = some q.2) (hR : t.R = []) {d src : Str} {L' : Prs} (h : t.L = (d, src) :: L') :
    isRing L0 d ∧ ∀ k, isRing L0 k → (d ∈ ringS L0 k → Alive L0 t k) ∧ (Alive L0 t.part k ↔ Alive L0 t k ∧ d ∉ ringS L0 k) := by
  have m : (d, src) ∈ t.L := by rw [h]; exact List.mem_cons_self
  obtain ⟨nd, b, _, _⟩ := g.perm hR
  have cl : ∀ a c, (∃ q ∈ t.L, q.1 = a) → getS L0 a = some c → ∃ q ∈ t.L, q.1 = c := by
    rintro a c ⟨q, hq, rfl⟩ e
    rw [hsub q hq] at e
    cases e
    exact b q hq
  have inj : ∀ q ∈ t.L, ∀ q' ∈ t.L, q.2 = q'.2 → q.1 = q'.1 := by
    have key : ∀ (l : Prs), (l.map (·.2)).Nodup → ∀ q ∈ l, ∀ q' ∈ l, q.2 = q'.2 → q.1 = q'.1 := by
      intro l
      induction l with
      | nil => intro _ q hq; cases hq
      | cons a l ih =>
        intro n q hq q' hq' e
        rw [List.map_cons, List.nodup_cons] at n
        rcases List.mem_cons.mp hq with rfl | z
        · rcases List.mem_cons.mp hq' with rfl | y
          · rfl
          · exact absurd (List.mem_map.mpr ⟨q', y, e.symm⟩) n.1
        · rcases List.mem_cons.mp hq' with rfl | y
          · exact absurd (List.mem_map.mpr ⟨q, z, e⟩) n.1
          · exact ih n.2 q z q' y e
    exact key _ nd
  refine ⟨?_, fun k hk => ?_⟩
  · obtain ⟨e, h1, h2⟩ := ring_ch hL d
    have all := h1.all (fun a => ∃ q ∈ t.L, q.1 = a) cl ⟨_, m, rfl⟩
    obtain ⟨q, hq, eq⟩ := all e h1.mem
    have hy : getS L0 e = some q.2 := by rw [← eq]; exact hsub q hq
    have hm := h2 _ hy
    rcases h1.pre _ hm with z | ⟨c, hc, ne, e'⟩
    · exact ⟨e, h1.last, by rw [hy, z]⟩
    · exfalso
      obtain ⟨q', hq', eq'⟩ := all c hc
      rw [← eq', hsub q' hq'] at e'
      exact ne (by rw [← eq', ← eq]; exact inj q' hq' q hq (Option.some.inj e'))
  · have ep := (g.part hR h).1
    refine ⟨fun hd => ?_, ?_⟩
    · have all := hk.all hL (fun a => ∃ q ∈ t.L, q.1 = a) cl hd ⟨_, m, rfl⟩
      refine ⟨fun c hc => ⟨all c hc, by rw [hR]; simp⟩, fun q hq hc => ?_⟩
      obtain ⟨c, hc', e'⟩ := hk.pre hL hc
      obtain ⟨q', hq', eq'⟩ := all c hc'
      rw [← eq', hsub q' hq'] at e'
      rw [← inj q' hq' q hq (Option.some.inj e'), eq']
      exact hc'
    · rw [ep]
      constructor
      · intro ⟨h1, h2⟩
        refine ⟨⟨fun c hc => ⟨(h1 c hc).1, by rw [hR]; simp⟩, h2⟩, fun z => (h1 d z).2 (List.mem_singleton.mpr rfl)⟩
      · intro ⟨⟨h1, h2⟩, hn⟩
        refine ⟨fun c hc => ⟨(h1 c hc).1, fun z => hn ?_⟩, h2⟩
        rw [← List.mem_singleton.mp z]; exact hc
end
end Co
namespace Co
open PySem L2
/-! ### a whole run -/
theorem count_split {α : Type} (p q : α → Prop) [DecidablePred p] [DecidablePred q] : ∀ (l : List α), (∀ a ∈ l, q a → p a) → l.countP (fun a => decide (p a)) = l.countP (fun a => decide (q a)) + l.countP (fun a => decide (p a ∧ ¬ q a))
  | [], _ => rfl
  | a :: l, h => by
    have ih := count_split p q l fun a ha => h a (List.mem_cons_of_mem _ ha)
    rw [List.countP_cons, List.countP_cons, List.countP_cons, ih]
    by_cases hq : q a
    · have hp := h a List.mem_cons_self hq
      simp only [hq, hp, decide_true, if_true, not_true, and_false, decide_false, Bool.false_eq_true, if_false]
      omega
    · by_cases hp : p a
      · simp only [hq, hp, decide_true, if_true, not_false_iff, and_true, decide_false, Bool.false_eq_true, if_false]
        omega
      · simp only [hq, hp, decide_false, Bool.false_eq_true, if_false, false_and]
        omega
theorem count_same {α : Type} (p q : α → Prop) {_ : DecidablePred p} {_ : DecidablePred q} (l : List α) (h : ∀ a ∈ l, (p a ↔ q a)) : l.countP (fun a => decide (p a)) = l.countP (fun a => decide (q a)) :=
  List.countP_congr fun a ha => by rw [decide_eq_true_eq, decide_eq_true_eq]; exact h a ha
/-- all that is known of a state on the way -/
structure Way {β : Type} (f : Str → β) (L0 : Prs) (t : Od) : Prop where
  good : Good t
  holds : Holds f L0 t
open Classical in
theorem Way.step {β : Type} {f : Str → β} {L0 : Prs} {Ks : List Str} {t : Od} (hL : L0.length ≤ 10) (hK : ∀ q ∈ L0, q.1 ∈ Ks) (w : Way f L0 t) (hne : t.L ≠ []) :
    t.mid.R ≠ [] ∧ Good t.mid ∧ t.mid.L = t.L ∧ Way f L0 t.step ∧ t.step.L.length + 1 = t.L.length ∧ t.step.M.length + yet L0 Ks t.step = t.M.length + yet L0 Ks t + 1 := by
  obtain ⟨g, h⟩ := w
  have mid : t.mid.R ≠ [] ∧ Good t.mid ∧ t.mid.L = t.L ∧ Holds f L0 t.mid ∧ t.mid.M.length + yet L0 Ks t.mid = t.M.length + yet L0 Ks t := by
    unfold Od.mid
    by_cases hR : t.R = []
    · rw [if_pos hR]
      obtain ⟨d, src, L', eL⟩ : ∃ d src L', t.L = (d, src) :: L' := by
        cases e : t.L with
        | nil => exact absurd e hne
        | cons q L' => exact ⟨q.1, q.2, L', rfl⟩
      obtain ⟨ep, gp⟩ := g.part hR eL
      obtain ⟨r1, r2⟩ := alive_part hL g h.sub hR eL
      have m : (d, src) ∈ t.L := by rw [eL]; exact List.mem_cons_self
      refine ⟨by rw [ep]; simp, gp, by rw [ep], h.part g hR eL, ?_⟩
      have dK : d ∈ Ks := by
        have := getS_mem (h.sub _ m)
        exact hK _ this
      have c1 : (repsS L0 Ks []).countP (fun k => decide (d ∈ ringS L0 k)) = 1 := reps_one hL r1 (fun _ _ _ _ z => absurd z (by simp)) (by simp) dK
      have e1 : yet L0 Ks t = (repsS L0 Ks []).countP (fun k => decide (d ∈ ringS L0 k)) + yet L0 Ks t.part := by
        unfold yet
        rw [count_split (fun k => Alive L0 t k) (fun k => d ∈ ringS L0 k) _ fun k hk => (r2 k (reps_ring k hk)).1]
        congr 1
        exact (count_same (fun k => Alive L0 t.part k) (fun k => Alive L0 t k ∧ ¬ d ∈ ringS L0 k) _ fun k hk => (r2 k (reps_ring k hk)).2).symm
      have e2 : t.part.M.length = t.M.length + 1 := by rw [ep]; simp
      omega
    · rw [if_neg hR]
      exact ⟨hR, g, rfl, h, rfl⟩
  obtain ⟨m1, m2, m3, m4, m5⟩ := mid
  obtain ⟨d, src, x, R', md⟩ := m2.pop m1
  have e3 : yet L0 Ks t.step = yet L0 Ks t.mid := count_same _ _ _ fun k hk => alive_made m2 md
  have e4 : t.step.M.length = t.mid.M.length + 1 := by
    have := md.eq
    show t.mid.pop.M.length = _
    rw [this]
    simp
  have e5 : t.step.L.length + 1 = t.L.length := by
    have := md.eq
    show t.mid.pop.L.length + 1 = _
    rw [this]
    have := drop_len m2.kn md.hs
    rw [← m3]
    exact this
  exact ⟨m1, m2, m3, ⟨m2.made md, m4.made m2 md⟩, e5, by omega⟩
theorem Way.run {β : Type} {f : Str → β} {L0 : Prs} {Ks : List Str} (hL : L0.length ≤ 10) (hK : ∀ q ∈ L0, q.1 ∈ Ks) : ∀ (n : Nat) {t : Od}, Way f L0 t → t.L.length ≤ n →
    Way f L0 (t.run n) ∧ (t.run n).L = [] ∧ (t.run n).M.length + yet L0 Ks (t.run n) = t.M.length + yet L0 Ks t + t.L.length
  | 0, t, w, h => by
    have : t.L = [] := List.eq_nil_of_length_eq_zero (by omega)
    unfold Od.run
    exact ⟨w, this, by rw [this]; simp⟩
  | n + 1, t, w, h => by
    unfold Od.run
    by_cases e : t.L = []
    · rw [if_pos e]
      exact ⟨w, e, by rw [e]; simp⟩
    · rw [if_neg e]
      obtain ⟨_, _, _, w', l1, l2⟩ := w.step (Ks := Ks) hL hK e
      obtain ⟨r1, r2, r3⟩ := Way.run hL hK n w' (by omega)
      exact ⟨r1, r2, by omega⟩
/-! ### the start -/
def selfS (vs : List Str) : Prs := vs.foldl (fun p v => putS p v v) []
def startO (L : Prs) : Od := ⟨L, selfS (L.map (·.2)), (L.map (·.1)).filter (fun k => decide (k ∉ L.map (·.2))), []⟩
theorem getS_self (vs : List Str) (k : Str) : getS (selfS vs) k = if k ∈ vs then some k else none := by
  have key : ∀ (vs : List Str) (p : Prs), getS (vs.foldl (fun p v => putS p v v) p) k = if k ∈ vs then some k else getS p k := by
    intro vs
    induction vs with
    | nil => intro p; simp
    | cons v vs ih =>
      intro p
      rw [List.foldl_cons, ih, getS_put]
      by_cases h1 : k ∈ vs
      · simp [h1]
      · by_cases h2 : k = v
        · simp [h2]
        · simp [h1, h2]
  exact key vs []
theorem Way.start {β : Type} (f : Str → β) {L : Prs} (kn : (L.map (·.1)).Nodup) (ne : ∀ q ∈ L, q.1 ≠ q.2) (nt : ∀ q ∈ L, q.1 ≠ "t") : Way f L (startO L) := by
  have src : ∀ q ∈ L, getS (selfS (L.map (·.2))) q.2 = some q.2 := fun q hq => by
    rw [getS_self, if_pos (List.mem_map.mpr ⟨q, hq, rfl⟩)]
  refine ⟨⟨kn, fun r h => ?_, kn.sublist List.filter_sublist, fun q hq => ⟨_, src q hq⟩, fun r h q hq e => ?_, ne, nt, fun q hq hn => ?_, fun q hq x hx hne => ?_⟩, ⟨fun q hq x hx => ?_, fun q hq => rfl, fun d hd hn => ?_, fun q hq => mem_getS kn hq⟩⟩
  · obtain ⟨q, hq, rfl⟩ := List.mem_map.mp (List.mem_filter.mp h).1
    exact getS_some_of ⟨q, hq, rfl⟩
  · have := (List.mem_filter.mp h).2
    rw [decide_eq_true_eq] at this
    exact absurd (List.mem_map.mpr ⟨q, hq, e⟩) this
  · have hm : q.1 ∈ L.map (·.2) := by
      by_cases z : q.1 ∈ L.map (·.2)
      · exact z
      · exact absurd (show q.1 ∈ (L.map (·.1)).filter (fun k => decide (k ∉ L.map (·.2))) from List.mem_filter.mpr ⟨List.mem_map.mpr ⟨q, hq, rfl⟩, decide_eq_true z⟩) hn
    refine ⟨List.mem_map.mp hm, ?_⟩
    show getS (selfS (L.map (·.2))) q.1 = _
    rw [getS_self, if_pos hm]
  · exact absurd (Option.some.inj ((src q hq).symm.trans hx)).symm hne
  · have := Option.some.inj ((src q hq).symm.trans hx)
    rw [← this]
    rfl
  · have hn : getS L d = none := hn
    rw [hn]
    rfl
def pureS (L : Prs) (k : Str) : Prop := ∀ q ∈ L, q.2 ∈ ringS L k → q.1 ∈ ringS L k
open Classical in
noncomputable def ringsN (L : Prs) (Ks : List Str) : Nat := (repsS L Ks []).countP fun k => decide (pureS L k)
end Co
namespace Co
open PySem L2
/-! ### the walk through the ordering -/
theorem OrdTo.trans {s s1 s2 : S} {o l p r m : Nat} {t1 t2 : Od} (a : OrdTo s o l p r m s1 t1) (b : OrdTo s1 o l p r m s2 t2) : OrdTo s o l p r m s2 t2 :=
  ⟨b.at_, b.next.trans a.next, fun x h1 h2 h3 h4 => (b.same x h1 h2 h3 h4).trans (a.same x h1 h2 h3 h4)⟩
theorem Made.len {t t' : Od} {d src x : Str} {R' : List Str} (m : Made t d src x R' t') : t'.M.length ≤ t.M.length + 1 ∧ t'.P.length ≤ t.P.length + 1 ∧ t'.R.length ≤ t.R.length := by
  rw [m.eq, m.hR]
  refine ⟨?_, putS_len, ?_⟩
  · show (t.M ++ [_]).length ≤ _; rw [List.length_append]; exact Nat.le_refl _
  · show (if _ then R' ++ [src] else R').length ≤ _
    split
    · rw [List.length_append]; exact Nat.le_refl _
    · exact Nat.le_succ _
end Co
namespace Co
open PySem L2
end Co
namespace Co
open PySem L2
end Co
namespace Co
open PySem L2
/-! ### the moves are done -/
theorem getK_put {kvs : List (Key × D)} {k k' : Key} {v : D} : getK (putD kvs k v) k' = if k' = k then some v else getK kvs k' := by
  unfold putD
  by_cases h : (kvs.any fun q => decide (q.1 = k)) = true
  · rw [if_pos h]
    obtain ⟨q0, hq0, e0⟩ := List.any_eq_true.mp h
    by_cases e : k' = k
    · subst e
      rw [if_pos rfl]
      clear h
      induction kvs with
      | nil => cases hq0
      | cons q p ih =>
        unfold getK
        rw [List.map_cons, List.find?_cons]
        by_cases z : q.1 = k'
        · simp [z]
        · simp only [z, if_false, decide_false]
          rcases List.mem_cons.mp hq0 with y | y
          · subst y; exact absurd (of_decide_eq_true e0) z
          · exact ih y
    · rw [if_neg e]
      clear h hq0
      induction kvs with
      | nil => rfl
      | cons q p ih =>
        unfold getK at ih ⊢
        rw [List.map_cons, List.find?_cons, List.find?_cons]
        by_cases z : q.1 = k
        · have z' : ¬ q.1 = k' := fun y => e (y.symm.trans z)
          have z2 : ¬ k = k' := fun y => e y.symm
          simp only [z, if_true, z2, decide_false]
          exact ih
        · simp only [z, if_false]
          by_cases y : q.1 = k'
          · simp [y]
          · simp only [y, decide_false]; exact ih
  · rw [if_neg h]
    have hn : ∀ q ∈ kvs, ¬ q.1 = k := fun q hq z => h (List.any_eq_true.mpr ⟨q, hq, decide_eq_true z⟩)
    unfold getK
    rw [List.find?_append]
    by_cases e : k' = k
    · subst e
      rw [if_pos rfl]
      have : kvs.find? (fun q => decide (q.1 = k')) = none := List.find?_eq_none.mpr fun q hq z => hn q hq (of_decide_eq_true z)
      rw [this]
      simp
    · rw [if_neg e]
      have e2 : ¬ k = k' := fun z => e z.symm
      cases kvs.find? (fun q => decide (q.1 = k')) <;> simp [e2]
theorem putD_len {kvs : List (Key × D)} {k : Key} {v : D} : (putD kvs k v).length ≤ kvs.length + 1 := by
  unfold putD
  split
  · rw [List.length_map]; omega
  · rw [List.length_append]; exact Nat.le_refl _
end Co
namespace Co
open PySem L2
/-! ### the law's own ordering -/
section
variable {F : Nat → List D → S → R D} {G : Nat → D} {env : Env} {s : S}
theorem mkL_lv {ds : List D} (h : ds.length ≤ 1000) : mkL false ds s = .ok (.lv ds) s := by
  have z : ds.length ≤ LINE := by rw [line_is]; omega
  simp only [mkL, z, if_true, Bool.false_eq_true, if_false]
theorem mkL_ref {ds : List D} (h : ds.length ≤ 1000) : mkL true ds s = .ok (.ref s.next) (s.alloc (.lst ds)) := by
  have z : ds.length ≤ LINE := by rw [line_is]; omega
  simp only [mkL, z, if_true]
end
/-- the heap amid the law's own ordering -/
structure LoAt (s0 s : S) (a b c : Nat) (t : Od) : Prop where
  ha : s.heap a = some (.dK (kd t.P))
  hb : s.heap b = some (.lst (t.R.map .str))
  hc : s.heap c = some (.lst (t.M.map mv))
  ne : a ≠ b ∧ a ≠ c ∧ b ≠ c
  old : s0.next ≤ a ∧ s0.next ≤ b ∧ s0.next ≤ c
  same : ∀ x, x < s0.next → s.heap x = s0.heap x
section
variable {F : Nat → List D → S → R D} {G : Nat → D} {s0 s : S} {a b c : Nat} {t : Od} {X : D} {x5 x6 x7 x8 x9 : Option D}
theorem LoAt.app {M : Prs} {q : Str × Str} (h : s.heap c = some (.lst (M.map mv))) (hl : M.length ≤ 1000) : appF (.ref c) [mv q] s = .ok .non (s.upd c (.lst ((M ++ [q]).map mv))) := by
  have z : (M.map mv).length < LINE := by rw [line_is, List.length_map]; omega
  simp only [appF, hlOf, h, z, if_true]
  rw [List.map_append]
  rfl
theorem LoAt.put {P : Prs} {k v : Str} (h : s.heap a = some (.dK (kd P))) (hl : P.length ≤ 1000) : Co.putF (.ref a) (.str k) (.str v) s = some (s.upd a (.dK (kd (putS P k v)))) := by
  have z : (kd P).length < LINE := by rw [line_is]; unfold kd; rw [List.length_map]; omega
  simp only [Co.putF, h, keyOf, z, if_true, putD_kd]
theorem LoAt.get {P : Prs} {k v : Str} (h : s.heap a = some (.dK (kd P))) (e : getS P k = some v) : ixF (.ref a) (.str k) s = .ok (.str v) s := by
  simp [ixF, seqOf, lstOf, h, dget, dicOf, keyOf, getK_kd, e]
end
end Co
namespace Co
open PySem L2
end Co
namespace Co
open PySem L2
end Co
namespace Co
open PySem L2
/-! ### the law's count of rings -/
end Co
namespace Co
open PySem L2
end Co
namespace Co
open PySem L2
end Co
namespace Co
open PySem L2
end Co
namespace Co
open PySem L2
end Co
namespace Co
open PySem L2
end Co
namespace Co
open PySem L2
/-! ### the law's moves -/
abbrev DrawF (F : Nat → List D → S → R D) (j : Nat) : Prop := ∀ {s : S} {a : Nat} (w : s.Wf) (hb : Box s a) (m : Int) (hm : 0 < m) {Q : D → S → Prop} {E : XP}
    (hQ : ∀ (v : Int) (t : S), 0 ≤ v → v < m → After s a t → Q (.int v) t), wp (F j [.ref a, .int m] s) Q E
theorem DrawF.get {F : Nat → List D → S → R D} {j : Nat} (h : DrawF F j) {s : S} {a : Nat} (w : s.Wf) (hb : Box s a) (m : Int) (hm : 0 < m) : ∃ (v : Int) (t : S), 0 ≤ v ∧ v < m ∧ After s a t ∧ F j [.ref a, .int m] s = .ok (.int v) t := by
  obtain ⟨d, t, e, v, h1, h2, h3, h4⟩ := wp_get (h w hb m hm (Q := fun d t => ∃ v, 0 ≤ v ∧ v < m ∧ After s a t ∧ d = .int v) (E := fun _ _ _ => False) fun v t h1 h2 h3 => ⟨v, h1, h2, h3, rfl⟩)
  exact ⟨v, t, h1, h2, h3, by rw [e, h4]⟩
end Co
namespace Co
open PySem L2
/-- amid the drawing of moves -/
structure MvAt (s0 s : S) (a b c : Nat) (P : List Str) (M : Prs) : Prop where
  wf : s.Wf
  box : Box s a
  hb : s.heap b = some (.lst (P.map .str))
  hc : s.heap c = some (.lst (M.map mv))
  ne : a ≠ b ∧ a ≠ c ∧ b ≠ c
  lt : a < s0.next ∧ s0.next ≤ b ∧ s0.next ≤ c
  same : ∀ x, x < s0.next → x ≠ a → s.heap x = s0.heap x
theorem MvAt.after {s0 s t : S} {a b c : Nat} {P : List Str} {M : Prs} (h : MvAt s0 s a b c P M) (k : After s a t) : MvAt s0 t a b c P M := by
  obtain ⟨n1, n2, n3⟩ := h.ne
  exact ⟨k.wf, k.box, by rw [k.same b (Ne.symm n1)]; exact h.hb, by rw [k.same c (Ne.symm n2)]; exact h.hc, h.ne, h.lt, fun x hx hn => by rw [k.same x hn]; exact h.same x hx hn⟩
end Co
namespace Co
open PySem L2
end Co
namespace Co
open PySem L2
end Co
namespace Co
open PySem L2
/-- amid the drawing of a ring -/
structure RgAt (s0 s : S) (a c : Nat) (M : Prs) : Prop where
  wf : s.Wf
  box : Box s a
  hc : s.heap c = some (.lst (M.map mv))
  ne : a ≠ c
  lt : a < s0.next ∧ s0.next ≤ c
  same : ∀ x, x < s0.next → x ≠ a → s.heap x = s0.heap x
theorem RgAt.after {s0 s t : S} {a c : Nat} {M : Prs} (h : RgAt s0 s a c M) (k : After s a t) : RgAt s0 t a c M :=
  ⟨k.wf, k.box, by rw [k.same c (Ne.symm h.ne)]; exact h.hc, h.ne, h.lt, fun x hx hn => by rw [k.same x hn]; exact h.same x hx hn⟩
theorem RgAt.app {s0 s : S} {a c : Nat} {M : Prs} (h : RgAt s0 s a c M) (N : Prs) : RgAt s0 (s.upd c (.lst ((M ++ N).map mv))) a c (M ++ N) := by
  obtain ⟨l1, l2⟩ := h.lt
  refine ⟨h.wf.upd (h.wf.lt h.hc) (below_mvs s.next (M ++ N)), ?_, by rw [upd_heap, if_pos rfl], h.ne, h.lt, fun x hx hn => ?_⟩
  · obtain ⟨ns, k, h1, h2⟩ := h.box
    exact ⟨ns, k, by rw [upd_heap, if_neg h.ne]; exact h1, h2⟩
  · rw [upd_heap, if_neg (by omega)]
    exact h.same x hx hn
theorem RgAt.new {s0 s : S} {a c : Nat} {M : Prs} (h : RgAt s0 s a c M) (N : Prs) : RgAt s0 (s.alloc (.lst (N.map mv))) a s.next N := by
  obtain ⟨l1, l2⟩ := h.lt
  have hc := h.wf.lt h.hc
  have hal : a < s.next := by obtain ⟨ns, k, h1, h2⟩ := h.box; exact h.wf.lt h1
  refine ⟨h.wf.alloc (below_mvs (s.next + 1) N), ?_, by rw [all_heap, if_pos rfl], by omega, ⟨l1, by omega⟩, fun x hx hn => ?_⟩
  · obtain ⟨ns, k, h1, h2⟩ := h.box
    exact ⟨ns, k, by rw [all_heap, if_neg (by omega)]; exact h1, h2⟩
  · rw [all_heap, if_neg (by omega)]
    exact h.same x hx hn
end Co
namespace Co
open PySem L2
/-! ### repr of what is small -/
/-- data that repr shows -/
structure Sh (w k : Nat) (p : PyData) : Prop where
  sh : p.showable = true
  dp : p.depth ≤ k
  lv : p.leavesShort 13 = true
  wt : p.weight ≤ w
theorem Sh.ok {w k : Nat} {p : PyData} (h : Sh w k p) (hw : w ≤ 1000000) (hk : k ≤ 60) : reprOk p :=
  ⟨h.sh, Nat.le_trans h.dp hk, PyData.shown_fits (B := 13) (by decide) (by decide) h.lv (Nat.le_trans h.wt (Nat.le_trans hw (Nat.le_trans (show 1000000 ≤ 1048576 by decide) (show 1048576 ≤ 2 ^ 20 by decide))))⟩
def strSh (x : Str) : Bool := (x.cps.toList.all fun c => decide (c < 16 ^ 8)) && decide (x.cps.size ≤ 100) && PyData.canLay0 (.str x)
theorem Sh.str {x : Str} (h : strSh x = true) : Sh 100 0 (.str x) := by
  simp only [strSh, Bool.and_eq_true, decide_eq_true_eq] at h
  exact ⟨rfl, Nat.le_refl 0, h.1.1, h.1.2⟩
theorem Sh.int {i : Int} (h : i.natAbs < 10 ^ 12) : Sh 100 0 (.int i) := by
  have e12 : (10 : Nat) ^ 12 < 2 ^ 40 := by decide
  have hl : i.natAbs.log2 < 40 := by
    by_cases z : i.natAbs = 0
    · rw [z]; decide
    · exact (Nat.log2_lt z).mpr (by omega)
  refine ⟨?_, Nat.le_refl 0, ?_, ?_⟩
  · simp only [PyData.showable, decide_eq_true_eq]; omega
  · simp only [PyData.leavesShort, decide_eq_true_eq]
    exact PyData.shown_int_le h
  · simp only [PyData.weight]
    split <;> omega
theorem Sh.all {w k : Nat} : ∀ {xs : List PyData}, (∀ x ∈ xs, Sh w k x) → PyData.showableAll xs = true ∧ PyData.depthAll xs ≤ k ∧ PyData.leavesShortAll 13 xs = true ∧ PyData.weightAll xs ≤ xs.length * (w + 1)
  | [], _ => ⟨rfl, Nat.zero_le _, rfl, Nat.zero_le _⟩
  | x :: xs, h => by
    obtain ⟨h1, h2, h3, h4⟩ := Sh.all (xs := xs) fun y hy => h y (List.mem_cons_of_mem _ hy)
    have g := h x List.mem_cons_self
    refine ⟨by simp only [PyData.showableAll, g.sh, h1, Bool.and_self], ?_, by simp only [PyData.leavesShortAll, g.lv, h3, Bool.and_self], ?_⟩
    · have := g.dp
      simp only [PyData.depthAll]; omega
    · have := g.wt
      simp only [PyData.weightAll, List.length_cons, Nat.succ_mul]
      omega
theorem Sh.tup {w k : Nat} {xs : List PyData} (h : ∀ x ∈ xs, Sh w k x) : Sh (xs.length * (w + 1)) (k + 1) (.tuple xs) := by
  obtain ⟨h1, h2, h3, h4⟩ := Sh.all h
  exact ⟨by simpa only [PyData.showable] using h1, by simp only [PyData.depth]; omega, by simpa only [PyData.leavesShort] using h3, by simpa only [PyData.weight] using h4⟩
theorem Sh.lst {w k : Nat} {xs : List PyData} (h : ∀ x ∈ xs, Sh w k x) : Sh (xs.length * (w + 1)) (k + 1) (.list xs) := by
  obtain ⟨h1, h2, h3, h4⟩ := Sh.all h
  exact ⟨by simpa only [PyData.showable] using h1, by simp only [PyData.depth]; omega, by simpa only [PyData.leavesShort] using h3, by simpa only [PyData.weight] using h4⟩
theorem Sh.kv {w k : Nat} : ∀ {xs : List (PyData × PyData)}, (∀ x ∈ xs, Sh w k x.1 ∧ Sh w k x.2) → PyData.showableKv xs = true ∧ PyData.depthKv xs ≤ k ∧ PyData.leavesShortKv 13 xs = true ∧ PyData.weightKv xs ≤ xs.length * (w + w + 2)
  | [], _ => ⟨rfl, Nat.zero_le _, rfl, Nat.zero_le _⟩
  | (a, b) :: xs, h => by
    obtain ⟨h1, h2, h3, h4⟩ := Sh.kv (xs := xs) fun y hy => h y (List.mem_cons_of_mem _ hy)
    obtain ⟨g, g'⟩ : Sh w k a ∧ Sh w k b := h (a, b) List.mem_cons_self
    refine ⟨by simp only [PyData.showableKv, g.sh, g'.sh, h1, Bool.and_self], ?_, by simp only [PyData.leavesShortKv, g.lv, g'.lv, h3, Bool.and_self], ?_⟩
    · have := g.dp
      have := g'.dp
      simp only [PyData.depthKv]; omega
    · have := g.wt
      have := g'.wt
      simp only [PyData.weightKv, List.length_cons]
      rw [Nat.add_mul, Nat.one_mul]
      omega
theorem Sh.dict {w k : Nat} {xs : List (PyData × PyData)} (h : ∀ x ∈ xs, Sh w k x.1 ∧ Sh w k x.2) : Sh (xs.length * (w + w + 2)) (k + 1) (.dict xs) := by
  obtain ⟨h1, h2, h3, h4⟩ := Sh.kv h
  exact ⟨by simpa only [PyData.showable] using h1, by simp only [PyData.depth]; omega, by simpa only [PyData.leavesShort] using h3, by simpa only [PyData.weight] using h4⟩
theorem Sh.mono {w w' k k' : Nat} {p : PyData} (h : Sh w k p) (hw : w ≤ w') (hk : k ≤ k') : Sh w' k' p := ⟨h.sh, Nat.le_trans h.dp hk, h.lv, Nat.le_trans h.wt hw⟩
/-! ### moves -/
/-! ### a dict of texts and small numbers -/
/-! ### the names of an order -/
structure NamS (V : List Str) (t : Od) : Prop where
  l : ∀ q ∈ t.L, q.1 ∈ V ∧ q.2 ∈ V
  p : ∀ q ∈ t.P, q.2 ∈ V
  r : ∀ x ∈ t.R, x ∈ V
  m : ∀ q ∈ t.M, q.1 ∈ V ∧ q.2 ∈ V
section
variable {V : List Str} {t : Od}
theorem put_mem {p : Prs} {k v : Str} (h : ∀ q ∈ p, q.2 ∈ V) (hv : v ∈ V) : ∀ q ∈ putS p k v, q.2 ∈ V := by
  intro q hq
  unfold putS at hq
  split at hq
  · obtain ⟨z, hz, rfl⟩ := List.mem_map.mp hq
    split
    · exact hv
    · exact h z hz
  · rcases List.mem_append.mp hq with z | z
    · exact h q z
    · rw [List.mem_singleton.mp z]; exact hv
theorem NamS.make (h : NamS V t) {d : Str} (hd : d ∈ V) : NamS V (t.make d) := by
  unfold Od.make
  cases e : getS t.L d with
  | none => exact h
  | some s =>
    have hs : s ∈ V := (h.l _ (getS_mem e)).2
    simp only
    cases e2 : getS t.P s with
    | none => exact h
    | some x =>
      have hx : x ∈ V := h.p _ (getS_mem e2)
      simp only
      refine ⟨fun q hq => h.l q (mem_drop.mp hq).1, put_mem h.p hd, fun y hy => ?_, fun q hq => ?_⟩
      · simp only at hy
        split at hy
        · rcases List.mem_append.mp hy with z | z
          · exact h.r y z
          · rw [List.mem_singleton.mp z]; exact hs
        · exact h.r y hy
      · rcases List.mem_append.mp hq with z | z
        · exact h.m q z
        · rw [List.mem_singleton.mp z]; exact ⟨hd, hx⟩
theorem NamS.part (h : NamS V t) (ht : ("t" : Str) ∈ V) : NamS V t.part := by
  unfold Od.part
  split
  · exact h
  · rename_i d x L' e
    have hd : d ∈ V := (h.l (d, x) (by rw [e]; exact List.mem_cons_self)).1
    refine ⟨h.l, put_mem h.p ht, fun y hy => ?_, fun q hq => ?_⟩
    · rcases List.mem_append.mp hy with z | z
      · exact h.r y z
      · rw [List.mem_singleton.mp z]; exact hd
    · rcases List.mem_append.mp hq with z | z
      · exact h.m q z
      · rw [List.mem_singleton.mp z]; exact ⟨ht, hd⟩
theorem NamS.step (h : NamS V t) (ht : ("t" : Str) ∈ V) : NamS V t.step := by
  have h1 : NamS V t.mid := by
    unfold Od.mid
    split
    · exact h.part ht
    · exact h
  unfold Od.step Od.pop
  split
  · exact h1
  · rename_i d R e
    have hr : ∀ y ∈ d :: R, y ∈ V := fun y hy => h1.r y (e ▸ hy)
    exact NamS.make (t := ⟨t.mid.L, t.mid.P, R, t.mid.M⟩) ⟨h1.l, h1.p, fun y hy => hr y (List.mem_cons_of_mem _ hy), h1.m⟩ (hr d List.mem_cons_self)
theorem NamS.run (ht : ("t" : Str) ∈ V) : ∀ (n : Nat) {t : Od}, NamS V t → NamS V (t.run n)
  | 0, _, h => h
  | n + 1, t, h => by
    unfold Od.run
    split
    · exact h
    · exact NamS.run ht n (h.step ht)
end
end Co
namespace Co
open PySem L2
/-! ### moves that are told in another order -/
/-! ### contents that are small numbers -/
/-! ### what is equal to itself -/
end Co
namespace Co
open PySem L2
theorem add_lv {xs ys : List D} {s : S} (hl : xs.length + ys.length ≤ 1000) : addF false (.lv xs) (.lv ys) s = .ok (.lv (xs ++ ys)) s := by
  simp only [addF, trkOf]
  exact mkL_lv (by rw [List.length_append]; exact hl)
end Co
namespace Co
open PySem L2
/-! ### no row of moves is shorter -/
theorem sub_len : ∀ {α : Type} [DecidableEq α] {K V : List α}, K.Nodup → (∀ k ∈ K, k ∈ V) → K.length ≤ V.length
  | _, _, [], _, _, _ => Nat.zero_le _
  | α, _, k :: K, V, nd, h => by
    obtain ⟨n1, n2⟩ := List.nodup_cons.mp nd
    have ih := sub_len (K := K) (V := V.erase k) n2 fun x hx => by
      have ne : x ≠ k := fun z => n1 (z ▸ hx)
      exact (List.mem_erase_of_ne ne).mpr (h x (List.mem_cons_of_mem _ hx))
    rw [List.length_erase_of_mem (h k List.mem_cons_self)] at ih
    have : 0 < V.length := List.length_pos_of_mem (h k List.mem_cons_self)
    rw [List.length_cons]
    omega
/-- the content of k behind the first j moves -/
def cAt (M : Prs) (j : Nat) : Str → Str := conts (fun x => x) (M.take j)
theorem cAt_zero (M : Prs) (k : Str) : cAt M 0 k = k := rfl
theorem cAt_succ {M : Prs} {j : Nat} {q : Str × Str} (h : M[j]? = some q) (k : Str) : cAt M (j + 1) k = if k = q.1 then cAt M j q.2 else cAt M j k := by
  unfold cAt
  have e : M.take (j + 1) = M.take j ++ [q] := by rw [List.take_add_one, h]; rfl
  rw [e, conts_snoc]
  rfl
theorem cAt_end (M : Prs) (k : Str) : cAt M M.length k = conts (fun x => x) M k := by unfold cAt; rw [List.take_length]
section
variable {M : Prs}
/-- what has changed was written -/
theorem was_written {k : Str} : ∀ (n : Nat), n ≤ M.length → cAt M n k ≠ k → ∃ j q, j < n ∧ M[j]? = some q ∧ q.1 = k ∧ cAt M j q.2 = cAt M n k
  | 0, _, h => absurd (cAt_zero M k) h
  | n + 1, hn, h => by
    have hq := List.getElem?_eq_getElem (show n < M.length from hn)
    by_cases z : k = M[n].1
    · exact ⟨n, M[n], Nat.lt_succ_self n, hq, z.symm, by rw [cAt_succ hq, if_pos z]⟩
    · rw [cAt_succ hq, if_neg z] at h ⊢
      obtain ⟨j, q, h1, h2⟩ := was_written n (Nat.le_of_succ_le hn) h
      exact ⟨j, q, Nat.lt_succ_of_lt h1, h2⟩
/-- where nothing of C is brought out, what stands in C stays -/
theorem ring_stays {C : List Str} (nd : C.Nodup) (h0 : ∀ j q, M[j]? = some q → q.1 ∉ C → cAt M j q.2 ∉ C) (hf : ∀ v ∈ C, ∃ x ∈ C, cAt M M.length x = v) : ∀ x ∈ C, cAt M M.length x = x := by
  have out : ∀ j, j ≤ M.length → ∀ x, x ∉ C → cAt M j x ∉ C := by
    intro j
    induction j with
    | zero => exact fun _ x hx => hx
    | succ j ih =>
      intro hj x hx
      have hq := List.getElem?_eq_getElem (show j < M.length from hj)
      rw [cAt_succ hq]
      by_cases z : x = M[j].1
      · rw [if_pos z]
        exact h0 j _ hq (z ▸ hx)
      · rw [if_neg z]
        exact ih (Nat.le_of_succ_le hj) x hx
  have full : ∀ n j, j + n = M.length → ∀ v ∈ C, ∃ x ∈ C, cAt M j x = v := by
    intro n
    induction n with
    | zero => intro j hj; rw [show j = M.length by omega]; exact hf
    | succ n ih =>
      intro j hj v hv
      have hq := List.getElem?_eq_getElem (show j < M.length by omega)
      obtain ⟨x, hx, e⟩ := ih (j + 1) (by omega) v hv
      rw [cAt_succ hq] at e
      by_cases z : x = M[j].1
      · rw [if_pos z] at e
        refine ⟨M[j].2, ?_, e⟩
        by_cases w : M[j].2 ∈ C
        · exact w
        · exact absurd (e ▸ hv) (out j (by omega) _ w)
      · rw [if_neg z] at e
        exact ⟨x, hx, e⟩
  have stay : ∀ j, j ≤ M.length → ∀ x ∈ C, cAt M j x = x := by
    intro j
    induction j with
    | zero => exact fun _ x _ => rfl
    | succ j ih =>
      intro hj x hx
      have ih := ih (Nat.le_of_succ_le hj)
      have hq := List.getElem?_eq_getElem (show j < M.length from hj)
      obtain ⟨p1, p2⟩ := pigeon C (C.map (cAt M (j + 1))) nd (fun v hv => by
        obtain ⟨y, hy, e⟩ := full (M.length - (j + 1)) (j + 1) (by omega) v hv
        exact List.mem_map.mpr ⟨y, hy, e⟩) (by rw [List.length_map]; exact Nat.le_refl _)
      rw [cAt_succ hq]
      by_cases z : x = M[j].1
      · rw [if_pos z]
        have e1 : cAt M (j + 1) x = cAt M j M[j].2 := by rw [cAt_succ hq, if_pos z]
        have hv : cAt M j M[j].2 ∈ C := by
          have := p2 _ (List.mem_map.mpr ⟨x, hx, e1⟩)
          exact this
        have hs : M[j].2 ∈ C := by
          by_cases w : M[j].2 ∈ C
          · exact w
          · exact absurd hv (out j (by omega) _ w)
        rw [ih _ hs]
        by_cases w : M[j].2 = x
        · exact w
        · exfalso
          have e2 : cAt M (j + 1) M[j].2 = M[j].2 := by
            rw [cAt_succ hq, if_neg fun y => w (y.trans z.symm)]
            exact ih _ hs
          have e3 : cAt M (j + 1) x = M[j].2 := by rw [e1]; exact ih _ hs
          have inj : ∀ {l : List Str} {f : Str → Str} {a b : Str}, (l.map f).Nodup → a ∈ l → b ∈ l → f a = f b → a = b := by
            intro l f a b hn ha hb hab
            obtain ⟨i, hi, ea⟩ := List.mem_iff_getElem.mp ha
            obtain ⟨i', hi', eb⟩ := List.mem_iff_getElem.mp hb
            have h1 : (l.map f)[i]'(by rw [List.length_map]; exact hi) = (l.map f)[i']'(by rw [List.length_map]; exact hi') := by
              rw [List.getElem_map, List.getElem_map, ea, eb, hab]
            have h2 := (List.getElem_inj hn).mp h1
            subst h2
            rw [← ea, ← eb]
          exact w (inj p1 hs hx (e2.trans e3.symm))
      · rw [if_neg z]
        exact ih x hx
  exact stay M.length (Nat.le_refl _)
end
theorem reps_apart {L : Prs} : ∀ {ks seen : List Str}, (repsS L ks seen).Pairwise (fun a b => b ∉ ringS L a) ∧ ∀ k ∈ repsS L ks seen, k ∉ seen
  | [], _ => ⟨.nil, fun _ h => by cases h⟩
  | k :: ks, seen => by
    unfold repsS
    by_cases c : isRing L k ∧ k ∉ seen
    · rw [if_pos c]
      obtain ⟨h1, h2⟩ := reps_apart (L := L) (ks := ks) (seen := seen ++ ringS L k)
      refine ⟨List.pairwise_cons.mpr ⟨fun b hb hm => h2 b hb (List.mem_append_right _ hm), h1⟩, fun x hx => ?_⟩
      rcases List.mem_cons.mp hx with rfl | hx
      · exact c.2
      · exact fun hm => h2 x hx (List.mem_append_left _ hm)
    · rw [if_neg c]
      exact reps_apart
open Classical in
theorem pick_fun {α : Type} {P : α → Nat → Prop} {xs : List α} (h : ∀ x ∈ xs, ∃ j, P x j) : ∃ f : α → Nat, ∀ x ∈ xs, P x (f x) := by
  refine ⟨fun x => if hx : x ∈ xs then (h x hx).choose else 0, fun x hx => ?_⟩
  simp only [hx, dif_pos]
  exact (h x hx).choose_spec
open Classical in
/-- no row of moves that brings the same is shorter -/
theorem low {L M : Prs} {Ks : List Str} (hL : L.length ≤ 10) (kn : (L.map (·.1)).Nodup) (ne : ∀ q ∈ L, q.1 ≠ q.2) (h : ∀ q ∈ L, conts (fun x => x) M q.1 = q.2) (h' : ∀ k, (∀ q ∈ L, q.1 ≠ k) → k ≠ "t" → conts (fun x => x) M k = k)
    (nt : ∀ q ∈ L, q.1 ≠ "t") : L.length + ringsN L Ks ≤ M.length := by
  obtain ⟨f, hf⟩ := pick_fun (xs := L) (P := fun q j => ∃ m, j < M.length ∧ M[j]? = some m ∧ m.1 = q.1 ∧ cAt M j m.2 = q.2) fun q hq => by
    have e := h q hq
    rw [← cAt_end] at e
    obtain ⟨j, m, h1, h2, h3, h4⟩ := was_written (M := M) (k := q.1) M.length (Nat.le_refl _) (by rw [e]; exact fun z => ne q hq z.symm)
    exact ⟨j, m, h1, h2, h3, by rw [h4, e]⟩
  obtain ⟨g, hg⟩ := pick_fun (xs := (repsS L Ks []).filter fun k => decide (pureS L k)) (P := fun k j => ∃ m, j < M.length ∧ M[j]? = some m ∧ m.1 ∉ ringS L k ∧ cAt M j m.2 ∈ ringS L k) fun k hk => by
    obtain ⟨h1, h2⟩ := List.mem_filter.mp hk
    have ring := reps_ring k h1
    refine Classical.byContradiction fun no => ?_
    obtain ⟨e, ch, _⟩ := isRing_ch hL ring
    have st := ring_stays (M := M) (C := ringS L k) ch.nodup (fun j q hq hn hv => no ⟨j, q, (List.getElem?_eq_some_iff.mp hq).1, hq, hn, hv⟩) fun v hv => by
      obtain ⟨b, hb, eb⟩ := ring.pre hL hv
      exact ⟨b, hb, by rw [cAt_end]; exact h _ (getS_mem eb)⟩
    have hk := ch.first
    obtain ⟨b, hb, eb⟩ := ring.img hL hk
    have e1 := st k hk
    rw [cAt_end, h _ (getS_mem eb)] at e1
    exact ne _ (getS_mem eb) e1.symm
  have nd : (L.map f ++ ((repsS L Ks []).filter fun k => decide (pureS L k)).map g).Nodup := by
    refine List.nodup_append.mpr ⟨?_, ?_, ?_⟩
    · have : L.Pairwise fun a b => a.1 ≠ b.1 := List.pairwise_map.mp kn
      refine List.pairwise_map.mpr (this.imp_of_mem fun {a b} ha hb hab z => ?_)
      obtain ⟨m, _, m2, m3, _⟩ := hf a ha
      obtain ⟨m', _, n2, n3, _⟩ := hf b hb
      rw [z, n2] at m2
      cases m2
      exact hab (m3.symm.trans n3)
    · have : ((repsS L Ks []).filter fun k => decide (pureS L k)).Pairwise fun a b => b ∉ ringS L a := (reps_apart (L := L) (ks := Ks) (seen := [])).1.filter _
      refine List.pairwise_map.mpr (this.imp_of_mem fun {a b} ha hb hab z => ?_)
      obtain ⟨m, _, m2, _, m4⟩ := hg a ha
      obtain ⟨m', _, n2, _, n4⟩ := hg b hb
      rw [z, n2] at m2
      cases m2
      rw [z] at m4
      have ra := reps_ring a (List.mem_filter.mp ha).1
      have rb := reps_ring b (List.mem_filter.mp hb).1
      exact hab (ra.same hL rb m4 n4 b ring_self)
    · intro x hx y hy z
      subst z
      obtain ⟨q, hq, e1⟩ := List.mem_map.mp hx
      obtain ⟨k, hk, e2⟩ := List.mem_map.mp hy
      obtain ⟨m, _, m2, m3, m4⟩ := hf q hq
      obtain ⟨m', _, n2, n3, n4⟩ := hg k hk
      rw [e1] at m2 m4
      rw [e2, m2] at n2
      cases n2
      rw [e2, m4] at n4
      have pu := (List.mem_filter.mp hk).2
      rw [decide_eq_true_eq] at pu
      exact n3 (m3 ▸ pu q hq n4)
  have := sub_len (V := List.range M.length) nd fun x hx => by
    rw [List.mem_range]
    rcases List.mem_append.mp hx with z | z
    · obtain ⟨q, hq, rfl⟩ := List.mem_map.mp z
      exact (hf q hq).choose_spec.1
    · obtain ⟨k, hk, rfl⟩ := List.mem_map.mp z
      exact (hg k hk).choose_spec.1
  rw [List.length_append, List.length_map, List.length_map, List.length_range, ← List.countP_eq_length_filter] at this
  exact this
end Co
namespace Co
open PySem L2
/-! ### the program that the laws draw: the core bodies, by the numbers of the defs they call -/
structure Pj where
  jd : Nat
  jr : Nat
  js : Nat
  jp : Nat
  jh : Nat
  jm : Nat
  ji : Nat
  ja : Nat
end Co
namespace Co
open PySem L2
/-! ### which blocks ways lead to -/
def nD (l : List Nat) : List D := l.map fun (k : Nat) => .int (k : Int)
/-- a way from the entry to x that does not come to w -/
inductive Reach (T : List (List Nat)) (w : Nat) : Nat → Prop
  | zero : 0 ≠ w → Reach T w 0
  | step {y x : Nat} : Reach T w y → x ∈ T.getD y [] → x ≠ w → Reach T w x
/-- X is told as the targets T, in all states that keep what is old -/
def TgX (X : D) (T : List (List Nat)) (s : S) : Prop := ∀ s' : S, (∀ a, a < s.next → s'.heap a = s.heap a) → ∀ k, k < T.length → ∃ Y, ixF X (.int (k : Int)) s' = .ok Y s' ∧ ixF Y (.int 0) s' = .ok (.lv (nD (T.getD k []))) s'
structure TOk (T : List (List Nat)) : Prop where
  pos : 0 < T.length
  few : T.length ≤ 100
  tgt : ∀ k t, t ∈ T.getD k [] → t < T.length
  two : ∀ k, (T.getD k []).length ≤ 2
theorem below_nD (n : Nat) (l : List Nat) : belowL n (nD l) := belowL_of fun d hd => by
  obtain ⟨x, _, rfl⟩ := List.mem_map.mp hd
  trivial
/-- amid the search -/
structure RcAt (s0 s : S) (b c : Nat) (T : List (List Nat)) (w : Nat) (seen todo : List Nat) : Prop where
  hb : s.heap b = some (.lst (nD seen))
  hc : s.heap c = some (.lst (nD todo))
  ne : b ≠ c
  old : s0.next ≤ b ∧ s0.next ≤ c ∧ b < s.next ∧ c < s.next
  same : ∀ x, x < s0.next → s.heap x = s0.heap x
  nd : seen.Nodup
  sR : ∀ x ∈ seen, Reach T w x
  tR : ∀ x ∈ todo, x ≠ w → Reach T w x
  cl : ∀ y ∈ seen, ∀ x ∈ T.getD y [], x = w ∨ x ∈ seen ∨ x ∈ todo
  zr : 0 = w ∨ 0 ∈ seen ∨ 0 ∈ todo
  lt : (∀ x ∈ seen, x < T.length) ∧ ∀ x ∈ todo, x < T.length
theorem RcAt.all {s0 s : S} {b c : Nat} {T : List (List Nat)} {w : Nat} {seen : List Nat} (h : RcAt s0 s b c T w seen []) (x : Nat) : x ∈ seen ↔ Reach T w x := by
  refine ⟨h.sR x, fun r => ?_⟩
  induction r with
  | zero hz =>
    rcases h.zr with z | z | z
    · exact absurd z hz
    · exact z
    · cases z
  | @step y x _ hx hw ih =>
    rcases h.cl y ih x hx with z | z | z
    · exact absurd z hw
    · exact z
    · cases z
/-! ### the blocks that all ways to a block go through -/
open Classical in
noncomputable def domS (T : List (List Nat)) (k : Nat) : List Nat := (List.range T.length).filter fun o => decide (o = k ∨ ¬ Reach T o k)
open Classical in
noncomputable def domP (T : List (List Nat)) (k m : Nat) : List Nat := (List.range m).filter fun o => decide (o = k ∨ ¬ Reach T o k)
section
variable {F : Nat → List D → S → R D} {G : Nat → D} {J : Pj} {s0 s : S} {X : D} {T : List (List Nat)} {k : Nat} {x3 x4 : Option D} {b c : Nat}
/-- a shape's length, in all states that keep what is old -/
def LnX (X : D) (n : Nat) (s : S) : Prop := ∀ s', (∀ a, a < s.next → s'.heap a = s.heap a) → lenF [X] s' = .ok (.int (n : Int)) s'
theorem TgX.mono {s1 : S} (h : TgX X T s) (hn : s.next ≤ s1.next) (hs : ∀ a, a < s.next → s1.heap a = s.heap a) : TgX X T s1 := fun s' h' k hk => h s' (fun a ha => (h' a (by omega)).trans (hs a ha)) k hk
theorem LnX.mono {s1 : S} {n : Nat} (h : LnX X n s) (hn : s.next ≤ s1.next) (hs : ∀ a, a < s.next → s1.heap a = s.heap a) : LnX X n s1 := fun s' h' => h s' fun a ha => (h' a (by omega)).trans (hs a ha)
end
end Co
namespace Co
open PySem L2
end Co
namespace Co
open PySem L2
theorem box_of {s t : S} {a : Nat} (h : Box s a) (e : t.heap a = s.heap a) : Box t a := by
  obtain ⟨ns, k, h1, h2⟩ := h
  exact ⟨ns, k, by rw [e]; exact h1, h2⟩
theorem box_lt {s : S} {a : Nat} (w : s.Wf) (h : Box s a) : a < s.next := by
  obtain ⟨ns, k, h1, h2⟩ := h
  exact w.lt h1
/-! ### the shape: for each block its targets and how many parameters -/
def shO (t : List Nat) (c : Int) : Ob := .lst [.lv (nD t), .int c]
structure ShAt (s : S) (as : List Nat) (T : List (List Nat)) (cs : List Int) : Prop where
  lT : T.length = as.length
  lc : cs.length = as.length
  nd : as.Nodup
  at_ : ∀ i a, as[i]? = some a → s.heap a = some (shO (T.getD i []) (cs.getD i 0))
/-- what the targets of block k of n are -/
structure TgOk (n k : Nat) (t : List Nat) : Prop where
  rng : ∀ x ∈ t, 1 ≤ x ∧ x < n
  two : t.length ≤ 2
  nxt : k + 1 < n → k + 1 ∈ t
/-- amid the drawing of a shape -/
structure SpAt (s0 s : S) (a b n : Nat) (as : List Nat) (T : List (List Nat)) (cs : List Int) : Prop where
  wf : s.Wf
  box : Box s a
  hb : s.heap b = some (.lst (as.map .ref))
  sh : ShAt s as T cs
  ne : a ≠ b ∧ a ∉ as ∧ b ∉ as
  old : a < s0.next ∧ s0.next ≤ b ∧ (∀ x ∈ as, s0.next ≤ x) ∧ s0.next ≤ s.next
  same : ∀ x, x < s0.next → x ≠ a → s.heap x = s0.heap x
  ok : ∀ k, k < T.length → TgOk n k (T.getD k [])
  cp : ∀ c ∈ cs, 0 ≤ c ∧ c ≤ 2
theorem SpAt.after {s0 s t : S} {a b n : Nat} {as : List Nat} {T : List (List Nat)} {cs : List Int} (h : SpAt s0 s a b n as T cs) (k : After s a t) : SpAt s0 t a b n as T cs := by
  obtain ⟨n1, n2, n3⟩ := h.ne
  obtain ⟨o1, o2, o3, o4⟩ := h.old
  refine ⟨k.wf, k.box, by rw [k.same b (Ne.symm n1)]; exact h.hb, ⟨h.sh.lT, h.sh.lc, h.sh.nd, fun i x hx => ?_⟩, h.ne, ⟨o1, o2, o3, by rw [k.next]; exact o4⟩, fun x hx hn => by rw [k.same x hn]; exact h.same x hx hn, h.ok, h.cp⟩
  rw [k.same x fun z => n2 (z ▸ List.mem_of_getElem? hx)]
  exact h.sh.at_ i x hx
theorem SpAt.lt {s0 s : S} {a b n : Nat} {as : List Nat} {T : List (List Nat)} {cs : List Int} (h : SpAt s0 s a b n as T cs) : ∀ x ∈ as, x < s.next := fun x hx => by
  obtain ⟨i, hi⟩ := List.mem_iff_getElem?.mp hx
  exact h.wf.lt (h.sh.at_ i x hi)
/-- what is new does not touch it -/
theorem SpAt.keep {s0 s t : S} {a b n : Nat} {as : List Nat} {T : List (List Nat)} {cs : List Int} (h : SpAt s0 s a b n as T cs) (w : t.Wf) (hn : s.next ≤ t.next) (k : ∀ x, x < s.next → t.heap x = s.heap x) : SpAt s0 t a b n as T cs := by
  obtain ⟨o1, o2, o3, o4⟩ := h.old
  refine ⟨w, box_of h.box (k a (by omega)), by rw [k b (h.wf.lt h.hb)]; exact h.hb, ⟨h.sh.lT, h.sh.lc, h.sh.nd, fun i x hx => by rw [k x (h.lt x (List.mem_of_getElem? hx))]; exact h.sh.at_ i x hx⟩, h.ne, ⟨o1, o2, o3, by omega⟩, fun x hx hn => by rw [k x (by omega)]; exact h.same x hx hn, h.ok, h.cp⟩
theorem below_refs {m : Nat} {as : List Nat} (h : ∀ x ∈ as, x < m) : belowL m (as.map .ref) := belowL_of fun d hd => by
  obtain ⟨x, hx, rfl⟩ := List.mem_map.mp hd
  exact h x hx
/-- the next block's targets and number are put behind -/
theorem SpAt.snoc {s0 s : S} {a b n : Nat} {as : List Nat} {T : List (List Nat)} {cs : List Int} (h : SpAt s0 s a b n as T cs) {t : List Nat} {c : Int} (ht : TgOk n T.length t) (hc : 0 ≤ c ∧ c ≤ 2) :
    SpAt s0 ((s.alloc (shO t c)).upd b (.lst ((as ++ [s.next]).map .ref))) a b n (as ++ [s.next]) (T ++ [t]) (cs ++ [c]) := by
  obtain ⟨n1, n2, n3⟩ := h.ne
  obtain ⟨o1, o2, o3, o4⟩ := h.old
  have hbn := h.wf.lt h.hb
  have w1 : (s.alloc (shO t c)).Wf := h.wf.alloc ⟨below_nD _ _, trivial, trivial⟩
  have nin : s.next ∉ as := fun z => by have := h.lt _ z; omega
  refine ⟨w1.upd (by rw [all_next]; omega) (below_refs fun x hx => ?_), box_of h.box (by rw [upd_heap, if_neg n1, all_heap, if_neg (by omega)]), by rw [upd_heap, if_pos rfl], ⟨by rw [List.length_append, List.length_append, h.sh.lT]; rfl, by rw [List.length_append, List.length_append, h.sh.lc]; rfl, ?_, fun i x hx => ?_⟩, ⟨n1, fun z => ?_, fun z => ?_⟩, ⟨o1, o2, fun x hx => ?_, by rw [upd_next, all_next]; omega⟩, fun x hx hn => ?_, fun k hk => ?_, fun x hx => ?_⟩
  · rw [all_next]
    rcases List.mem_append.mp hx with z | z
    · have := h.lt x z; omega
    · rw [List.mem_singleton.mp z]; omega
  · refine List.nodup_append.mpr ⟨h.sh.nd, by simp, fun x hx y hy z => ?_⟩
    rw [List.mem_singleton.mp hy] at z
    exact nin (z ▸ hx)
  · have hxb : x ≠ b := fun z => by
      rcases List.mem_append.mp (List.mem_of_getElem? hx) with y | y
      · exact n3 (z ▸ y)
      · rw [List.mem_singleton.mp y] at z; omega
    rw [upd_heap, if_neg hxb, all_heap]
    by_cases hi : i < as.length
    · rw [List.getElem?_append_left hi] at hx
      have := h.lt x (List.mem_of_getElem? hx)
      rw [if_neg (by omega), h.sh.at_ i x hx]
      rw [List.getD_eq_getElem?_getD, List.getD_eq_getElem?_getD, List.getD_eq_getElem?_getD, List.getD_eq_getElem?_getD, List.getElem?_append_left (by rw [h.sh.lT]; exact hi), List.getElem?_append_left (by rw [h.sh.lc]; exact hi)]
    · have e : i = as.length := by
        have := (List.getElem?_eq_some_iff.mp hx).1
        rw [List.length_append, List.length_singleton] at this
        omega
      subst e
      rw [List.getElem?_concat_length] at hx
      cases hx
      rw [if_pos rfl]
      rw [List.getD_eq_getElem?_getD, List.getD_eq_getElem?_getD]
      rw [show as.length = T.length from h.sh.lT.symm, List.getElem?_concat_length, h.sh.lT, ← h.sh.lc, List.getElem?_concat_length]
      rfl
  · rcases List.mem_append.mp z with y | y
    · exact n2 y
    · have := List.mem_singleton.mp y; omega
  · rcases List.mem_append.mp z with y | y
    · exact n3 y
    · have := List.mem_singleton.mp y; omega
  · rcases List.mem_append.mp hx with y | y
    · exact o3 x y
    · rw [List.mem_singleton.mp y]; exact o4
  · rw [upd_heap, if_neg (by omega), all_heap, if_neg (by omega)]
    exact h.same x hx hn
  · rw [List.length_append, List.length_singleton] at hk
    rw [List.getD_eq_getElem?_getD]
    by_cases y : k < T.length
    · rw [List.getElem?_append_left y, ← List.getD_eq_getElem?_getD]
      exact h.ok k y
    · have e : k = T.length := by omega
      subst e
      rw [List.getElem?_concat_length]
      exact ht
  · rcases List.mem_append.mp hx with y | y
    · exact h.cp x y
    · rw [List.mem_singleton.mp y]; exact hc
end Co
namespace Co
open PySem L2
/-- amid the drawing of a shape, the new block's targets stand at c -/
structure TcAt (s0 s : S) (a b n : Nat) (as : List Nat) (T : List (List Nat)) (cs : List Int) (c : Nat) (t : List Nat) : Prop where
  sp : SpAt s0 s a b n as T cs
  hc : s.heap c = some (.lst (nD t))
  ne : c ≠ a ∧ c ≠ b ∧ c ∉ as
  old : s0.next ≤ c
section
variable {s0 s : S} {a b n c : Nat} {as : List Nat} {T : List (List Nat)} {cs : List Int} {t : List Nat}
theorem TcAt.new (h : SpAt s0 s a b n as T cs) (t : List Nat) : TcAt s0 (s.alloc (.lst (nD t))) a b n as T cs s.next t := by
  have al := box_lt h.wf h.box
  have bl := h.wf.lt h.hb
  refine ⟨h.keep (h.wf.alloc (below_nD _ _)) (by rw [all_next]; omega) fun x hx => by rw [all_heap, if_neg (by omega)], by rw [all_heap, if_pos rfl], ⟨by omega, by omega, fun z => ?_⟩, h.old.2.2.2⟩
  have := h.lt _ z
  omega
theorem TcAt.after {t' : S} (h : TcAt s0 s a b n as T cs c t) (k : After s a t') : TcAt s0 t' a b n as T cs c t :=
  ⟨h.sp.after k, by rw [k.same c h.ne.1]; exact h.hc, h.ne, h.old⟩
variable {F : Nat → List D → S → R D} {G : Nat → D} {J : Pj} {x4 x5 : Option D} {k : Nat}
end
end Co
namespace Co
open PySem L2
/-- a shape that was drawn -/
structure ShR (s0 s : S) (a : Nat) (as : List Nat) (T : List (List Nat)) (cs : List Int) : Prop where
  wf : s.Wf
  box : Box s a
  sh : ShAt s as T cs
  na : a ∉ as
  len : 1 ≤ T.length ∧ T.length ≤ 5
  ok : ∀ k, k < T.length → TgOk T.length k (T.getD k [])
  cp : ∀ c ∈ cs, 0 ≤ c ∧ c ≤ 2
  old : (∀ x ∈ as, s0.next ≤ x ∧ x < s.next) ∧ s0.next ≤ s.next
  same : ∀ x, x < s0.next → x ≠ a → s.heap x = s0.heap x
section
variable {F : Nat → List D → S → R D} {G : Nat → D} {J : Pj} {s0 s : S} {a : Nat}
theorem ShAt.tg {as : List Nat} {T : List (List Nat)} {cs : List Int} (h : ShAt s as T cs) (lt : ∀ x ∈ as, x < s.next) : TgX (.lv (as.map .ref)) T s := fun s' hs k hk => by
  have hk' : k < as.length := by rw [← h.lT]; exact hk
  have ex : as[k]? = some as[k] := List.getElem?_eq_getElem hk'
  have hx := h.at_ k _ ex
  have hl := lt _ (List.getElem_mem hk')
  refine ⟨.ref as[k], ?_, ?_⟩
  · have : (as.map D.ref)[k]? = some (.ref as[k]) := by rw [List.getElem?_map, ex]; rfl
    simp only [ixF, seqOf, lstOf, Co.atI_nat (Int.natCast_nonneg k), Int.toNat_natCast, this]
  · have e : s'.heap as[k] = some (shO (T.getD k []) (cs.getD k 0)) := by rw [hs _ hl]; exact hx
    simp only [ixF, seqOf, lstOf, e, shO]
    rfl
theorem ShR.tok {as : List Nat} {T : List (List Nat)} {cs : List Int} (h : ShR s0 s a as T cs) : TOk T := by
  obtain ⟨l1, l2⟩ := h.len
  refine ⟨by omega, by omega, fun k t ht => ?_, fun k => ?_⟩
  · by_cases hk : k < T.length
    · exact ((h.ok k hk).rng t ht).2
    · rw [List.getD_eq_getElem?_getD, List.getElem?_eq_none (by omega)] at ht
      cases ht
  · by_cases hk : k < T.length
    · exact (h.ok k hk).two
    · rw [List.getD_eq_getElem?_getD, List.getElem?_eq_none (by omega)]
      exact Nat.zero_le _
/-! ### one of a row, a scope, an instruction, arguments -/
def scopeS (rows : List Nat) (defs : List (List Str)) : List Str := (rows.filter fun k => decide (k < defs.length)).flatMap fun k => defs.getD k []
end
end Co
namespace Co
open PySem L2
/-! ### programs that the laws draw -/
inductive Row where
  | cst (x : Str) (i : Int) | rd (x : Str) | prt (v : Str) | op (x o a b : Str)
def Row.d : Row → D
  | .cst x i => .tup [.str "const", .str x, .int i]
  | .rd x => .tup [.str "read", .str x]
  | .prt v => .tup [.str "print", .str v]
  | .op x o a b => .tup [.str "op", .str x, .str o, .str a, .str b]
def Row.df : Row → Option Str
  | .cst x _ => some x
  | .rd x => some x
  | .prt _ => none
  | .op x _ _ _ => some x
def Row.us : Row → List Str
  | .cst _ _ => []
  | .rd _ => []
  | .prt v => [v]
  | .op _ _ a b => [a, b]
def ops5 : List Str := ["add", "sub", "mul", "less", "equal"]
section
variable {F : Nat → List D → S → R D} {G : Nat → D} {J : Pj} {s : S} {a : Nat}
theorem mkT_ok {xs : List D} (h : xs.length ≤ 1000) {s : S} : mkT xs s = .ok (.tup xs) s := by
  unfold mkT
  rw [if_pos (by rw [line_is]; omega)]
theorem After.trans {s t u : S} {a : Nat} (h : After s a t) (k : After t a u) : After s a u := ⟨k.next.trans h.next, k.wf, k.box, fun b hb => (k.same b hb).trans (h.same b hb)⟩
end
end Co
namespace Co
open PySem L2
structure Bk where
  ps : List Str
  rows : List Row
def Bk.df (b : Bk) : List Str := b.ps ++ b.rows.filterMap Row.df
def bn (k : Nat) : Str := (["ba", "bb", "bc", "bd", "be", "bf"] : List Str).getD k "ba"
def names16 : List Str := ["va", "vb", "vc", "vd", "ve", "vf", "vg", "vh", "vi", "vj", "vk", "vl", "vm", "vn", "vo", "vp"]
def blkD (k : Nat) (b : Bk) : D := .lv [.str (bn k), .tup (b.ps.map .str), .tup (b.rows.map Row.d)]
def blksD (bs : List Bk) : List D := bs.zipIdx.map fun p => blkD p.2 p.1
def defsS (bs : List Bk) : List (List Str) := bs.map Bk.df
/-- what is defined ahead of the next row of the block b, the k-th -/
noncomputable def viS (T : List (List Nat)) (pre : List Bk) (k : Nat) (b : Bk) : List Str := scopeS (domS T k) (defsS pre) ++ b.ps ++ b.rows.filterMap Row.df
structure RowIn (V : List Str) (r : Row) : Prop where
  us : ∀ v ∈ r.us, v ∈ V
  cs : ∀ y i, r = .cst y i → -32768 ≤ i ∧ i ≤ 32767
  os : ∀ y o a b, r = .op y o a b → o ∈ ops5
def BkOk (T : List (List Nat)) (pre : List Bk) (k : Nat) (b : Bk) : Prop := ∀ i r, b.rows[i]? = some r → RowIn (viS T pre k ⟨b.ps, b.rows.take i⟩) r
/-- the names, while the block b is drawn behind bs -/
structure NmS (n : Nat) (bs : List Bk) (b : Bk) (P : List Str) : Prop where
  nd : (bs.flatMap Bk.df ++ b.df ++ P).Nodup
  nm : ∀ x ∈ bs.flatMap Bk.df ++ b.df ++ P, x ∈ names16
  pl : 2 * (n - 1 - bs.length) + 1 ≤ P.length
  tt : (bs.flatMap Bk.df ++ b.df ++ P).length = 16
/-- the heap while a program is drawn -/
structure PrAt (s0 s : S) (a d e f : Nat) (as : List Nat) (T : List (List Nat)) (cs : List Int) (bs : List Bk) (P : List Str) : Prop where
  wf : s.Wf
  box : Box s a
  hd : s.heap d = some (.lst (P.map .str))
  he : s.heap e = some (.lst ((defsS bs).map fun l => .lv (l.map .str)))
  hf : s.heap f = some (.lst (blksD bs))
  sh : ShAt s as T cs
  ne : (a :: d :: e :: f :: as).Nodup
  old : a < s0.next ∧ ∀ x ∈ d :: e :: f :: as, s0.next ≤ x
  same : ∀ x, x < s0.next → x ≠ a → s.heap x = s0.heap x
section
variable {s0 s : S} {a d e f g : Nat} {as : List Nat} {T : List (List Nat)} {cs : List Int} {bs : List Bk} {P : List Str}
theorem PrAt.mem {x : Nat} (h : PrAt s0 s a d e f as T cs bs P) (hx : x ∈ a :: d :: e :: f :: as) : ∃ o, s.heap x = some o := by
  simp only [List.mem_cons] at hx
  rcases hx with rfl | rfl | rfl | rfl | hx
  · obtain ⟨ns, k, h1, _⟩ := h.box; exact ⟨_, h1⟩
  · exact ⟨_, h.hd⟩
  · exact ⟨_, h.he⟩
  · exact ⟨_, h.hf⟩
  · obtain ⟨i, hi⟩ := List.mem_iff_getElem?.mp hx
    exact ⟨_, h.sh.at_ i x hi⟩
theorem PrAt.lt {x : Nat} (h : PrAt s0 s a d e f as T cs bs P) (hx : x ∈ a :: d :: e :: f :: as) : x < s.next := by
  obtain ⟨o, ho⟩ := h.mem hx
  exact h.wf.lt ho
/-- what keeps these objects keeps it -/
theorem PrAt.keep {t : S} (h : PrAt s0 s a d e f as T cs bs P) (w : t.Wf) (k : ∀ x ∈ a :: d :: e :: f :: as, t.heap x = s.heap x) (k0 : ∀ x, x < s0.next → x ≠ a → t.heap x = s.heap x) : PrAt s0 t a d e f as T cs bs P :=
  ⟨w, box_of h.box (k a (by simp)), by rw [k d (by simp)]; exact h.hd, by rw [k e (by simp)]; exact h.he, by rw [k f (by simp)]; exact h.hf, ⟨h.sh.lT, h.sh.lc, h.sh.nd, fun i x hx => by rw [k x (by simp [List.mem_of_getElem? hx])]; exact h.sh.at_ i x hx⟩, h.ne, h.old, fun x hx hn => by rw [k0 x hx hn]; exact h.same x hx hn⟩
theorem PrAt.after {t : S} (h : PrAt s0 s a d e f as T cs bs P) (k : After s a t) : PrAt s0 t a d e f as T cs bs P := by
  have nd := h.ne
  rw [List.nodup_cons] at nd
  have na : ∀ x ∈ d :: e :: f :: as, x ≠ a := fun x hx z => nd.1 (z ▸ hx)
  exact ⟨k.wf, k.box, by rw [k.same d (na d (by simp))]; exact h.hd, by rw [k.same e (na e (by simp))]; exact h.he, by rw [k.same f (na f (by simp))]; exact h.hf, ⟨h.sh.lT, h.sh.lc, h.sh.nd, fun i x hx => by rw [k.same x (na x (by simp [List.mem_of_getElem? hx]))]; exact h.sh.at_ i x hx⟩, h.ne, h.old, fun x hx hn => by rw [k.same x hn]; exact h.same x hx hn⟩
theorem PrAt.alloc {o : Ob} (h : PrAt s0 s a d e f as T cs bs P) (h0 : s0.next ≤ s.next) (hb : obBelow (s.next + 1) o) : PrAt s0 (s.alloc o) a d e f as T cs bs P :=
  h.keep (h.wf.alloc hb) (fun x hx => by have := h.lt hx; rw [all_heap, if_neg (by omega)]) fun x hx _ => by rw [all_heap, if_neg (by omega)]
/-- the names change -/
theorem PrAt.names (h : PrAt s0 s a d e f as T cs bs P) (P' : List Str) : PrAt s0 (s.upd d (.lst (P'.map .str))) a d e f as T cs bs P' := by
  have nd := h.ne
  have hl := h.lt (x := d) (by simp)
  have n1 : ∀ x ∈ a :: e :: f :: as, x ≠ d := by
    intro x hx z
    subst z
    simp only [List.nodup_cons, List.mem_cons, not_or] at nd hx
    rcases hx with rfl | rfl | rfl | hx
    · exact nd.1.1 rfl
    · exact nd.2.1.1 rfl
    · exact nd.2.1.2.1 rfl
    · exact nd.2.1.2.2 hx
  have k : ∀ x ∈ a :: e :: f :: as, (s.upd d (.lst (P'.map .str))).heap x = s.heap x := fun x hx => by rw [upd_heap, if_neg (n1 x hx)]
  have od := h.old.2 d (by simp)
  exact ⟨h.wf.upd hl (below_strs _ _), box_of h.box (k a (by simp)), by rw [upd_heap, if_pos rfl], by rw [k e (by simp)]; exact h.he, by rw [k f (by simp)]; exact h.hf, ⟨h.sh.lT, h.sh.lc, h.sh.nd, fun i x hx => by rw [k x (by simp [List.mem_of_getElem? hx])]; exact h.sh.at_ i x hx⟩, h.ne, h.old, fun x hx hn => by rw [upd_heap, if_neg (by omega)]; exact h.same x hx hn⟩
/-! ### the rows' names -/
end
end Co
namespace Co
open PySem L2
/-- amid the drawing of a block's rows -/
structure RwAt (s0 s : S) (a d e f g : Nat) (as : List Nat) (T : List (List Nat)) (cs : List Int) (bs : List Bk) (b : Bk) (P : List Str) : Prop where
  pr : PrAt s0 s a d e f as T cs bs P
  hg : s.heap g = some (.lst (b.rows.map Row.d))
  gn : g ∉ a :: d :: e :: f :: as
  go : s0.next ≤ g
  nm : NmS T.length bs b P
  ok : BkOk T bs bs.length b
theorem take_snoc {α : Type} {l : List α} {x : α} {i : Nat} {r : α} (h : (l ++ [x])[i]? = some r) : (i < l.length ∧ l[i]? = some r ∧ (l ++ [x]).take i = l.take i) ∨ (i = l.length ∧ r = x ∧ (l ++ [x]).take i = l) := by
  by_cases hi : i < l.length
  · rw [List.getElem?_append_left hi] at h
    exact .inl ⟨hi, h, List.take_append_of_le_length (by omega)⟩
  · have h1 := (List.getElem?_eq_some_iff.mp h).1
    rw [List.length_append, List.length_singleton] at h1
    have e : i = l.length := by omega
    subst e
    rw [List.getElem?_concat_length] at h
    cases h
    exact .inr ⟨rfl, rfl, List.take_left⟩
end Co
namespace Co
open PySem L2
/-- a program under way: bs the blocks that are drawn -/
structure PgI (s0 s : S) (a d e f : Nat) (as : List Nat) (T : List (List Nat)) (cs : List Int) (bs : List Bk) (P : List Str) : Prop where
  pr : PrAt s0 s a d e f as T cs bs P
  nd : (bs.flatMap Bk.df ++ P).Nodup
  nm : ∀ x ∈ bs.flatMap Bk.df ++ P, x ∈ names16
  tt : (bs.flatMap Bk.df ++ P).length = 16
  pl : 2 * (T.length - bs.length) ≤ P.length
  ok : ∀ k b, bs[k]? = some b → BkOk T (bs.take k) k b
  ne : ∀ b, bs[0]? = some b → b.df ≠ []
  ct : ∀ k b, bs[k]? = some b → cs.getD k 0 = (b.ps.length : Nat)
  c0 : ∀ c ∈ cs, 0 ≤ c
  rl : ∀ b ∈ bs, b.rows.length ≤ 10
section
variable {s0 s : S} {a d e f g : Nat} {as : List Nat} {T : List (List Nat)} {cs : List Int} {bs : List Bk} {b : Bk} {P : List Str}
/-- a block's number of parameters is written down -/
theorem PrAt.count (h : PrAt s0 s a d e f as T cs bs P) {k : Nat} {x : Nat} (hx : as[k]? = some x) (m : Int) : PrAt s0 (s.upd x (shO (T.getD k []) m)) a d e f as T (cs.set k m) bs P := by
  have nd := h.ne
  have hxl := h.lt (x := x) (by simp [List.mem_of_getElem? hx])
  have hk : k < as.length := (List.getElem?_eq_some_iff.mp hx).1
  have n1 : ∀ y ∈ [a, d, e, f], y ≠ x := by
    intro y hy z
    subst z
    have hm := List.mem_of_getElem? hx
    simp only [List.nodup_cons, List.mem_cons, not_or, List.not_mem_nil, or_false] at nd hy
    rcases hy with rfl | rfl | rfl | rfl
    · exact nd.1.2.2.2 hm
    · exact nd.2.1.2.2 hm
    · exact nd.2.2.1.2 hm
    · exact nd.2.2.2.1 hm
  have k1 : ∀ y ∈ [a, d, e, f], (s.upd x (shO (T.getD k []) m)).heap y = s.heap y := fun y hy => by rw [upd_heap, if_neg (n1 y hy)]
  have ox := h.old.2 x (by simp [List.mem_of_getElem? hx])
  refine ⟨h.wf.upd hxl ⟨below_nD _ _, trivial, trivial⟩, box_of h.box (k1 a (by simp)), by rw [k1 d (by simp)]; exact h.hd, by rw [k1 e (by simp)]; exact h.he, by rw [k1 f (by simp)]; exact h.hf, ⟨h.sh.lT, by rw [List.length_set]; exact h.sh.lc, h.sh.nd, fun i y hy => ?_⟩, h.ne, h.old, fun y hy hn => by rw [upd_heap, if_neg (by omega)]; exact h.same y hy hn⟩
  rw [upd_heap]
  by_cases z : i = k
  · subst z
    rw [hx] at hy
    cases hy
    rw [if_pos rfl]
    rw [List.getD_eq_getElem?_getD (l := cs.set i m), List.getElem?_set_self (by rw [h.sh.lc]; exact hk)]
    rfl
  · have : y ≠ x := fun w => by
      subst w
      obtain ⟨h1, e1⟩ := List.getElem?_eq_some_iff.mp hx
      obtain ⟨h2, e2⟩ := List.getElem?_eq_some_iff.mp hy
      exact z ((List.getElem_inj h.sh.nd).mp (e2.trans e1.symm))
    rw [if_neg this, h.sh.at_ i y hy]
    rw [List.getD_eq_getElem?_getD (l := cs.set k m), List.getElem?_set_ne (Ne.symm z), ← List.getD_eq_getElem?_getD]
end
end Co
namespace Co
open PySem L2
end Co
namespace Co
open PySem L2
section
variable {F : Nat → List D → S → R D} {G : Nat → D} {J : Pj} {s0 s : S} {a d e f g : Nat} {as : List Nat} {T : List (List Nat)} {cs : List Int} {bs : List Bk} {b : Bk} {P : List Str} {x7 x8 x9 x10 x11 x12 x13 x14 x15 x16 x17 x18 x19 x20 : Option D} {left : Nat}
theorem RwAt.after {t : S} (h : RwAt s0 s a d e f g as T cs bs b P) (k : After s a t) : RwAt s0 t a d e f g as T cs bs b P :=
  ⟨h.pr.after k, by rw [k.same g fun z => h.gn (by rw [z]; simp)]; exact h.hg, h.gn, h.go, h.nm, h.ok⟩
end
end Co
namespace Co
open PySem L2
section
variable {F : Nat → List D → S → R D} {G : Nat → D} {J : Pj} {s0 s : S} {a d e f g : Nat} {as : List Nat} {T : List (List Nat)} {cs : List Int} {bs : List Bk} {b : Bk} {P : List Str} {x7 x8 x9 x10 x11 x12 x13 x14 x15 x16 x17 x18 x19 x20 : Option D} {left : Nat}
theorem PgI.snoc {s' : S} {cs' : List Int} {b : Bk} {P' : List Str} (h : PgI s0 s a d e f as T cs bs P) (hk : bs.length < cs.length) (pr : PrAt s0 s' a d e f as T cs' (bs ++ [b]) P') (nm : NmS T.length bs b P') (ok : BkOk T bs bs.length b) (ne : bs = [] → b.df ≠ []) (hc : cs' = cs.set bs.length (b.ps.length : Nat)) (hrl : b.rows.length ≤ 10) : PgI s0 s' a d e f as T cs' (bs ++ [b]) P' := by
  have fm : (bs ++ [b]).flatMap Bk.df = bs.flatMap Bk.df ++ b.df := by rw [List.flatMap_append]; simp
  refine ⟨pr, by rw [fm]; exact nm.nd, by rw [fm]; exact nm.nm, by rw [fm]; exact nm.tt, ?_, fun k b' hb => ?_, fun b' hb => ?_, fun k b' hb => ?_, fun c hc' => ?_, fun b' hb => ?_⟩
  · have := nm.pl
    rw [List.length_append, List.length_singleton]
    omega
  · rcases take_snoc hb with ⟨h1, h2, h3⟩ | ⟨h1, h2, h3⟩
    · rw [h3]; exact h.ok k b' h2
    · rw [h3, h1, h2]; exact ok
  · rcases take_snoc hb with ⟨h1, h2, h3⟩ | ⟨h1, h2, h3⟩
    · exact h.ne b' h2
    · rw [h2]; exact ne (List.length_eq_zero_iff.mp h1.symm)
  · rw [hc, List.getD_eq_getElem?_getD]
    rcases take_snoc hb with ⟨h1, h2, h3⟩ | ⟨h1, h2, h3⟩
    · rw [List.getElem?_set_ne (by omega), ← List.getD_eq_getElem?_getD]
      exact h.ct k b' h2
    · rw [h1, List.getElem?_set_self hk, h2]
      rfl
  · rw [hc] at hc'
    rcases List.mem_or_eq_of_mem_set hc' with z | z
    · exact h.c0 c z
    · rw [z]; omega
  · rcases List.mem_append.mp hb with z | z
    · exact h.rl b' z
    · rw [List.mem_singleton.mp z]; exact hrl
end
end Co
namespace Co
open PySem L2
inductive Fin' where
  | ret (v : Str) | jmp (t : Nat) (as : List Str) | br (v : Str) (t1 : Nat) (as1 : List Str) (t2 : Nat) (as2 : List Str)
def Fin'.d : Fin' → D
  | .ret v => .tup [.str "return", .str v]
  | .jmp t as => .tup [.str "jump", .str (bn t), .tup (as.map .str)]
  | .br v t1 as1 t2 as2 => .tup [.str "branch", .str v, .str (bn t1), .tup (as1.map .str), .str (bn t2), .tup (as2.map .str)]
def Fin'.tg : Fin' → List Nat
  | .ret _ => []
  | .jmp t _ => [t]
  | .br _ t1 _ t2 _ => [t1, t2]
def Fin'.us : Fin' → List Str
  | .ret v => [v]
  | .jmp _ as => as
  | .br v _ as1 _ as2 => v :: (as1 ++ as2)
/-- how many arguments each target is given -/
def Fin'.ar : Fin' → List Nat
  | .ret _ => []
  | .jmp _ as => [as.length]
  | .br _ _ as1 _ as2 => [as1.length, as2.length]
def enS (ns : List Nat) (bs : List Bk) : List Str := ns.flatMap fun k => (defsS bs).getD k []
structure FinOk (T : List (List Nat)) (bs : List Bk) (k : Nat) (f : Fin') : Prop where
  tg : f.tg = T.getD k []
  us : ∀ v ∈ f.us, v ∈ enS (domS T k) bs
  ar : f.ar = f.tg.map fun t => ((bs.getD t ⟨[], []⟩).ps).length
def pD (k : Nat) (p : Bk × Fin') : D := .tup [.str (bn k), .tup (p.1.ps.map .str), .tup (p.1.rows.map Row.d), p.2.d]
def psD (bs : List Bk) (fs : List Fin') : List D := (bs.zip fs).zipIdx.map fun p => pD p.2 p.1
section
variable {F : Nat → List D → S → R D} {G : Nat → D} {J : Pj} {s0 s : S} {a d e f h : Nat} {as : List Nat} {T : List (List Nat)} {cs : List Int} {bs : List Bk} {P : List Str} {x8 x9 x10 x11 x12 x13 x14 x15 x16 x17 x18 x19 x20 : Option D} {k : Nat}
/-- amid the drawing of the ends -/
structure EnAt (s0 s : S) (a d e f h : Nat) (as : List Nat) (T : List (List Nat)) (cs : List Int) (bs : List Bk) (P : List Str) (fs : List Fin') : Prop where
  pg : PgI s0 s a d e f as T cs bs P
  hh : s.heap h = some (.lst (psD bs fs))
  hn : h ∉ a :: d :: e :: f :: as
  ho : s0.next ≤ h
theorem PgI.pr_ {t : S} (p : PgI s0 s a d e f as T cs bs P) (q : PrAt s0 t a d e f as T cs bs P) : PgI s0 t a d e f as T cs bs P := ⟨q, p.nd, p.nm, p.tt, p.pl, p.ok, p.ne, p.ct, p.c0, p.rl⟩
theorem EnAt.after {fs : List Fin'} {t : S} (p : EnAt s0 s a d e f h as T cs bs P fs) (k : After s a t) : EnAt s0 t a d e f h as T cs bs P fs :=
  ⟨p.pg.pr_ (p.pg.pr.after k), by rw [k.same h fun z => p.hn (by rw [z]; simp)]; exact p.hh, p.hn, p.ho⟩
end
end Co
namespace Co
open PySem L2
end Co
namespace Co
open PySem L2
/-- a program that a law may draw: the blocks bs with the ends fs, T their targets -/
structure ProgOk (T : List (List Nat)) (bs : List Bk) (fs : List Fin') : Prop where
  len : 1 ≤ T.length ∧ T.length ≤ 5
  lb : bs.length = T.length
  lf : fs.length = T.length
  tg : ∀ k, k < T.length → TgOk T.length k (T.getD k [])
  nd : (bs.flatMap Bk.df).Nodup
  nm : ∀ x ∈ bs.flatMap Bk.df, x ∈ names16
  ok : ∀ k b, bs[k]? = some b → BkOk T (bs.take k) k b
  ne : ∀ b, bs[0]? = some b → b.df ≠ []
  fo : ∀ k f, fs[k]? = some f → FinOk T bs k f
  rl : ∀ b ∈ bs, b.rows.length ≤ 10
section
variable {F : Nat → List D → S → R D} {G : Nat → D} {J : Pj} {s0 s : S} {a d e f h : Nat} {as : List Nat} {T : List (List Nat)} {cs : List Int} {bs : List Bk} {P : List Str} {fs : List Fin'} {x8 x9 x10 x11 x12 x13 x14 x15 x16 x17 x18 x19 x20 : Option D} {k : Nat}
theorem PrAt.of {t : S} (h : ShR s t a as T cs) (ha : a < s.next) : PrAt s (((t.alloc (.lst (names16.map .str))).alloc (.lst [])).alloc (.lst [])) a t.next (t.next + 1) (t.next + 2) as T cs [] names16 := by
  have w1 : (t.alloc (.lst (names16.map .str))).Wf := h.wf.alloc (below_strs _ _)
  have w2 : ((t.alloc (.lst (names16.map .str))).alloc (.lst [])).Wf := w1.alloc trivial
  have w3 : (((t.alloc (.lst (names16.map .str))).alloc (.lst [])).alloc (.lst [])).Wf := w2.alloc trivial
  have old : ∀ x, x < t.next → (((t.alloc (.lst (names16.map .str))).alloc (.lst [])).alloc (.lst [])).heap x = t.heap x := fun x hx => by
    rw [all_heap, all_next, all_next, if_neg (by omega), all_heap, all_next, if_neg (by omega), all_heap, if_neg (by omega)]
  obtain ⟨o1, o2⟩ := h.old
  refine ⟨w3, box_of h.box (old a (by omega)), ?_, ?_, ?_, ⟨h.sh.lT, h.sh.lc, h.sh.nd, fun i x hx => ?_⟩, ?_, ⟨ha, fun x hx => ?_⟩, fun x hx hn => ?_⟩
  · rw [all_heap, all_next, all_next, if_neg (by omega), all_heap, all_next, if_neg (by omega), all_heap, if_pos rfl]
  · rw [all_heap, all_next, all_next, if_neg (by omega), all_heap, all_next, if_pos rfl]; rfl
  · rw [all_heap, all_next, all_next, if_pos rfl]; rfl
  · rw [old x (o1 x (List.mem_of_getElem? hx)).2]
    exact h.sh.at_ i x hx
  · have la : ∀ x ∈ as, x < t.next := fun x hx => (o1 x hx).2
    refine List.nodup_cons.mpr ⟨?_, List.nodup_cons.mpr ⟨?_, List.nodup_cons.mpr ⟨?_, List.nodup_cons.mpr ⟨fun z => by have := la _ z; omega, h.sh.nd⟩⟩⟩⟩
    · simp only [List.mem_cons, not_or]
      exact ⟨by omega, by omega, by omega, h.na⟩
    · simp only [List.mem_cons, not_or]
      exact ⟨by omega, by omega, fun z => by have := la _ z; omega⟩
    · simp only [List.mem_cons, not_or]
      exact ⟨by omega, fun z => by have := la _ z; omega⟩
  · simp only [List.mem_cons] at hx
    rcases hx with rfl | rfl | rfl | hx
    · exact o2
    · omega
    · omega
    · exact (o1 x hx).1
  · rw [old x (by omega)]
    exact h.same x hx hn
end
end Co
namespace Co
open PySem L2
/-! ### edges and dominators of the given program: the core bodies -/
structure Pq where
  jt : Nat
  je : Nat
  jr : Nat
  jd : Nat
end Co
namespace Co
open PySem L2
/-! ### the edges of a program -/
def Fin'.out : Fin' → List (Nat × List Str)
  | .ret _ => []
  | .jmp t as => [(t, as)]
  | .br _ t1 as1 t2 as2 => [(t1, as1), (t2, as2)]
theorem Fin'.out_tg (f : Fin') : f.out.map (·.1) = f.tg := by cases f <;> rfl
theorem Fin'.out_ar (f : Fin') : f.out.map (·.2.length) = f.ar := by cases f <;> rfl
/-- an edge: the number of the block, the side, the number of the target, the arguments -/
structure Ed where
  k : Nat
  i : Nat
  t : Nat
  as : List Str
def Ed.d (e : Ed) : D := .tup [.int (e.k : Nat), .int (e.i : Nat), .int (e.t : Nat), .tup (e.as.map .str)]
end Co
namespace Co
open PySem L2
/-! ### edges -/
end Co
namespace Co
open PySem L2
/-! ### the given program's search for blocks -/
def fdD (l : List Nat) : List (Key × D) := l.map fun (k : Nat) => (.inl (k : Int), .bl true)
/-- amid the search: found at b, todo at c -/
structure RdAt (s0 s : S) (b c : Nat) (T : List (List Nat)) (w : Nat) (seen todo : List Nat) : Prop where
  wf : s.Wf
  hb : s.heap b = some (.dK (fdD seen))
  hc : s.heap c = some (.lst (nD todo))
  ne : b ≠ c
  old : s0.next ≤ b ∧ s0.next ≤ c ∧ s0.next ≤ s.next
  same : ∀ x, x < s0.next → s.heap x = s0.heap x
  nd : seen.Nodup
  sR : ∀ x ∈ seen, Reach T w x
  tR : ∀ x ∈ todo, Reach T w x
  cl : ∀ y ∈ seen, ∀ x ∈ T.getD y [], x = w ∨ x ∈ seen ∨ x ∈ todo
  zr : 0 = w ∨ 0 ∈ seen ∨ 0 ∈ todo
  lt : (∀ x ∈ seen, x < T.length) ∧ ∀ x ∈ todo, x < T.length
theorem RdAt.all {s0 s : S} {b c : Nat} {T : List (List Nat)} {w : Nat} {seen : List Nat} (h : RdAt s0 s b c T w seen []) (x : Nat) : x ∈ seen ↔ Reach T w x := by
  refine ⟨h.sR x, fun r => ?_⟩
  induction r with
  | zero hz =>
    rcases h.zr with z | z | z
    · exact absurd z hz
    · exact z
    · cases z
  | @step y x _ hx hw ih =>
    rcases h.cl y ih x hx with z | z | z
    · exact absurd z hw
    · exact z
    · cases z
end Co
namespace Co
open PySem L2
/-! ### dominators -/
theorem ProgOk.tok {T : List (List Nat)} {bs : List Bk} {fs : List Fin'} (h : ProgOk T bs fs) : TOk T := by
  obtain ⟨l1, l5⟩ := h.len
  refine ⟨l1, by omega, fun k t ht => ?_, fun k => ?_⟩
  · by_cases z : k < T.length
    · exact ((h.tg k z).1 t ht).2
    · rw [List.getD_eq_getElem?_getD, List.getElem?_eq_none (by omega)] at ht; cases ht
  · by_cases z : k < T.length
    · exact (h.tg k z).2
    · rw [List.getD_eq_getElem?_getD, List.getElem?_eq_none (by omega)]; exact Nat.zero_le _
theorem not_self {T : List (List Nat)} {w : Nat} : ¬ Reach T w w := by
  suffices h : ∀ x, Reach T w x → x ≠ w from fun z => h w z rfl
  intro x h
  cases h with
  | zero h => exact h
  | step _ _ h => exact h
section
variable {F : Nat → List D → S → R D} {G : Nat → D} {J : Pq} {s0 s : S} {T : List (List Nat)} {bs : List Bk} {fs : List Fin'} {b : Nat} {as : List Nat}
/-- amid dominators: the rows' list at b, the rows at as -/
structure DnAt (s0 s : S) (b : Nat) (as : List Nat) (rows : Nat → List Nat) : Prop where
  wf : s.Wf
  hb : s.heap b = some (.lst (as.map .ref))
  ha : ∀ i x, as[i]? = some x → s.heap x = some (.lst (nD (rows i)))
  nd : (b :: as).Nodup
  old : (∀ x ∈ b :: as, s0.next ≤ x) ∧ s0.next ≤ s.next
  same : ∀ x, x < s0.next → s.heap x = s0.heap x
theorem DnAt.lt {rows : Nat → List Nat} (h : DnAt s0 s b as rows) : ∀ x ∈ b :: as, x < s.next := fun x hx => by
  rcases List.mem_cons.mp hx with rfl | hx
  · exact h.wf.lt h.hb
  · obtain ⟨i, hi⟩ := List.mem_iff_getElem?.mp hx
    exact h.wf.lt (h.ha i x hi)
theorem DnAt.later {rows : Nat → List Nat} {t : S} (h : DnAt s0 s b as rows) (w : t.Wf) (hn : s.next ≤ t.next) (k : ∀ x, x < s.next → t.heap x = s.heap x) : DnAt s0 t b as rows :=
  ⟨w, by rw [k b (h.lt b (by simp))]; exact h.hb, fun i x hx => by rw [k x (h.lt x (by simp [List.mem_of_getElem? hx]))]; exact h.ha i x hx, h.nd, ⟨h.old.1, by have := h.old.2; omega⟩, fun x hx => by rw [k x (by have := h.old.2; omega)]; exact h.same x hx⟩
end
end Co
namespace Co
open PySem L2
section
variable {F : Nat → List D → S → R D} {G : Nat → D} {J : Pq} {s0 s : S} {T : List (List Nat)} {bs : List Bk} {fs : List Fin'} {b : Nat} {as : List Nat}
/-- amid the making of the rows: none of their list yet -/
structure RwsAt (s0 s : S) (as : List Nat) : Prop where
  wf : s.Wf
  ha : ∀ x ∈ as, s.heap x = some (.lst [])
  nd : as.Nodup
  old : (∀ x ∈ as, s0.next ≤ x) ∧ s0.next ≤ s.next
  same : ∀ x, x < s0.next → s.heap x = s0.heap x
theorem RwsAt.snoc (h : RwsAt s0 s as) : RwsAt s0 (s.alloc (.lst [])) (as ++ [s.next]) := by
  have lt : ∀ x ∈ as, x < s.next := fun x hx => h.wf.lt (h.ha x hx)
  refine ⟨S.Wf.alloc (o := .lst []) h.wf trivial, fun x hx => ?_, ?_, ⟨fun x hx => ?_, by rw [all_next]; have := h.old.2; omega⟩, fun x hx => ?_⟩
  · rcases List.mem_append.mp hx with z | z
    · rw [all_heap, if_neg (by have := lt x z; omega)]; exact h.ha x z
    · rw [List.mem_singleton.mp z, all_heap, if_pos rfl]
  · refine List.nodup_append.mpr ⟨h.nd, by simp, fun x hx y hy z => ?_⟩
    rw [List.mem_singleton.mp hy] at z
    have := lt x hx
    omega
  · rcases List.mem_append.mp hx with z | z
    · exact h.old.1 x z
    · rw [List.mem_singleton.mp z]; exact h.old.2
  · rw [all_heap, if_neg (by have := h.old.2; omega)]; exact h.same x hx
theorem RwsAt.done (h : RwsAt s0 s as) : DnAt s0 (s.alloc (.lst (as.map .ref))) s.next as (fun k => domP T k 0) := by
  have lt : ∀ x ∈ as, x < s.next := fun x hx => h.wf.lt (h.ha x hx)
  refine ⟨h.wf.alloc (belowL_of fun d hd => ?_), by rw [all_heap, if_pos rfl], fun i x hx => ?_, List.nodup_cons.mpr ⟨fun z => by have := lt _ z; omega, h.nd⟩, ⟨fun x hx => ?_, by rw [all_next]; have := h.old.2; omega⟩, fun x hx => ?_⟩
  · obtain ⟨x, hx, rfl⟩ := List.mem_map.mp hd
    show x < s.next + 1
    have := lt x hx
    omega
  · have hm := List.mem_of_getElem? hx
    rw [all_heap, if_neg (by have := lt x hm; omega)]
    exact h.ha x hm
  · rcases List.mem_cons.mp hx with rfl | hx
    · exact h.old.2
    · exact h.old.1 x hx
  · rw [all_heap, if_neg (by have := h.old.2; omega)]; exact h.same x hx
end
end Co
namespace Co
open PySem L2
/-! ### the immediate dominator -/
section
variable {T : List (List Nat)}
open Classical in
theorem mem_domS {o k : Nat} : o ∈ domS T k ↔ o < T.length ∧ ¬ Reach T o k := by
  unfold domS
  rw [List.mem_filter, List.mem_range, decide_eq_true_eq]
  constructor
  · rintro ⟨h1, h2⟩
    refine ⟨h1, h2.elim (fun e r => ?_) id⟩
    subst e
    exact not_self r
  · exact fun ⟨h1, h2⟩ => ⟨h1, .inr h2⟩
end
end Co
namespace Co
open PySem L2
/-! ### values that repr tells -/
/-- d is data that repr can show, at most w wide and k deep -/
structure Shd (w k : Nat) (d : D) : Prop where
  ex : ∃ p, (∀ s, pyT s d = some p) ∧ pyD d = some p ∧ Sh w k p ∧ p.canLay0 = true
theorem shd_int {i : Int} (h : i.natAbs < 10 ^ 12) : Shd 100 0 (.int i) := ⟨.int i, fun _ => rfl, rfl, Sh.int h, rfl⟩
theorem Shd.mono {w w' k k' : Nat} {d : D} (h : Shd w k d) (hw : w ≤ w') (hk : k ≤ k') : Shd w' k' d := by
  obtain ⟨p, h1, h2, h3, h4⟩ := h.ex
  exact ⟨p, h1, h2, h3.mono hw hk, h4⟩
theorem shd_repr {w k : Nat} {d : D} (h : Shd w k d) (hw : w ≤ 1000000) (hk : k ≤ 60) : ∃ z : Str, ∀ s, reprF [d] s = .ok (.str z) s := by
  obtain ⟨p, h1, h2, h3, h4⟩ := h.ex
  refine ⟨p.shown, fun s => ?_⟩
  simp only [reprF, h1 s, h3.ok hw hk, h4, true_and, true_or, if_true]
def sameC : C := (.seq
 (.ret (.cmp .eq (.blt .repr false (.cons (.var 0) .nil)) (.blt .repr false (.cons (.var 1) .nil))))
 .skip)
section
variable {F : Nat → List D → S → R D} {G : Nat → D} {s : S}
theorem same_gen (w0 : s.Wf) {w k : Nat} {d : D} (h : Shd w k d) (hw : w ≤ 1000000) (hk : k ≤ 60) {Q : D → S → Prop} {E : XP} (hQ : Q (.bl true) s) : wp (callB 2 2 (ev F G sameC).s [d, d] s) Q E := by
  refine wp_callB rfl ?_
  obtain ⟨z, hz⟩ := shd_repr h hw hk
  simp only [sameC, ev, wps_seq, wps_if, wps_ret, wps_nx, wps_fl, wps_expr, wps_set, wps_setT, wps_setI, wps_setF, wps_lks, wp_bool, wp_tru, wp_notM, wp_andM, wp_orM, wp_ifM, wp_op2, wp_op1, wp_arg, wp_cons, wp_nil, wp_lit, wp_mth, wp_meth, wp_mk, wp_pop, wp_get2, wp_lck, wp_v, wp_ok, wps_ok, List.map_cons, List.map_nil, List.length_cons, List.length_nil, Nat.zero_add, Nat.reduceAdd, Nat.reduceSub, List.replicate_zero, List.replicate_succ, List.cons_append, List.nil_append, List.append_nil, List.getElem?_cons_zero, List.getElem?_cons_succ, List.set_cons_zero, List.set_cons_succ, blF, mtF, opF, cmF, f_add, f_sub, f_mul, f_mod, f_fdiv, f_pow, f_lt, f_le, f_gt, f_ge, f_eqi, f_eqs, f_int, f_neg, upd_heap, upd_next, all_heap, all_next, Bool.false_eq_true, if_true, if_false, decide_eq_true_eq, Nat.sub_self, hz, decide_true]
  rw [gc_wf rfl w0]
  exact hQ
end
/-! ### a drawn program's pieces are small -/
theorem ProgOk.us {T : List (List Nat)} {bs : List Bk} {fs : List Fin'} (h : ProgOk T bs fs) {k : Nat} {f : Fin'} (hf : fs[k]? = some f) : ∀ v ∈ f.us, v ∈ names16 := fun v hv => by
  have := (h.fo k f hf).us v hv
  unfold enS at this
  obtain ⟨o, _, ho⟩ := List.mem_flatMap.mp this
  rw [List.getD_eq_getElem?_getD] at ho
  unfold defsS at ho
  rw [List.getElem?_map] at ho
  cases hb : bs[o]? with
  | none => rw [hb] at ho; cases ho
  | some b =>
    rw [hb] at ho
    exact h.nm v (List.mem_flatMap.mpr ⟨b, List.mem_of_getElem? hb, ho⟩)
theorem Fin'.out_us {f : Fin'} {q : Nat × List Str} (h : q ∈ f.out) : ∀ v ∈ q.2, v ∈ f.us := fun v hv => by
  cases f with
  | ret v => cases h
  | jmp t as => cases List.mem_singleton.mp h; exact hv
  | br w t1 as1 t2 as2 =>
    rcases List.mem_cons.mp h with rfl | h
    · exact List.mem_cons_of_mem _ (List.mem_append_left _ hv)
    · cases List.mem_singleton.mp h
      exact List.mem_cons_of_mem _ (List.mem_append_right _ hv)
end Co
namespace Co
open PySem L2
/-! ### _law_edges -/
section
variable {F : Nat → List D → S → R D} {G : Nat → D} {s0 s : S} {T : List (List Nat)} {bs : List Bk} {fs : List Fin'} {b : Nat}
structure LeAt (s0 s : S) (b : Nat) (es : List Ed) : Prop where
  hb : s.heap b = some (.lst (es.map Ed.d))
  old : s0.next ≤ b
  same : ∀ x, x < s0.next → s.heap x = s0.heap x
theorem LeAt.app {es : List Ed} (h : LeAt s0 s b es) (hl : es.length ≤ 100) (e : Ed) : appF (.ref b) [e.d] s = .ok .non (s.upd b (.lst ((es ++ [e]).map Ed.d))) ∧ LeAt s0 (s.upd b (.lst ((es ++ [e]).map Ed.d))) b (es ++ [e]) := by
  have z : (es.map Ed.d).length < LINE := by rw [line_is, List.length_map]; omega
  refine ⟨?_, by rw [upd_heap, if_pos rfl], h.old, fun x hx => by rw [upd_heap, if_neg (by have := h.old; omega)]; exact h.same x hx⟩
  rw [List.map_append]
  simp only [appF, hlOf, h.hb, z, if_true]
  rfl
end
end Co
namespace Co
open PySem L2
/-! ### runs of programs: the core bodies, by the numbers of the defs they call, of the constants, and what a refused step does -/
structure Pw where
  jdb : Nat
  jtg : Nat
  jwr : Nat
  jdf : Nat
  jop : Nat
  jio : Nat
  jfs : Nat
  jes : Nat
  jrs : Nat
  jst : Nat
  jrv : Nat
  jwk : Nat
  jdr : Nat
  jwd : Nat
  gh : Nat
  gw : Nat
  ra : C
def rwrap (J : Pw) : C := (.seq
 (.ret (.bin .sub false (.bin .mod false (.bin .add false (.var 0) (.gl J.gh)) (.gl J.gw)) (.gl J.gh)))
 .skip)
def roperate (J : Pw) : C := (.seq
 (.ifs (.tcmp .eq (.var 0) (.str "add")) (.seq
 (.ret (.call J.jwr (.cons (.bin .add false (.var 1) (.var 2)) .nil)))
 .skip) .skip)
 (.seq
 (.ifs (.tcmp .eq (.var 0) (.str "sub")) (.seq
 (.ret (.call J.jwr (.cons (.bin .sub false (.var 1) (.var 2)) .nil)))
 .skip) .skip)
 (.seq
 (.ifs (.tcmp .eq (.var 0) (.str "mul")) (.seq
 (.ret (.call J.jwr (.cons (.bin .mul false (.var 1) (.var 2)) .nil)))
 .skip) .skip)
 (.seq
 (.ifs (.tcmp .eq (.var 0) (.str "less")) (.seq
 (.ret (.ite (.tcmp .lt (.var 1) (.var 2)) (.int 1) (.int 0)))
 .skip) .skip)
 (.seq
 (.ret (.ite (.tcmp .eq (.var 1) (.var 2)) (.int 1) (.int 0)))
 .skip)))))
def rword (J : Pw) : C := (.seq
 (.ret (.ix (.lst false (.cons (.call J.jdr (.cons (.var 0) (.cons (.int 4) .nil))) (.cons (.bin .sub false (.call J.jdr (.cons (.var 0) (.cons (.int 9) .nil))) (.int 4)) (.cons (.int 32767) (.cons (.neg (.int 32768)) (.cons (.call J.jdr (.cons (.var 0) (.cons (.int 900) .nil))) .nil)))))) (.call J.jdr (.cons (.var 0) (.cons (.int 5) .nil)))))
 .skip)
end Co
namespace Co
open PySem L2
/-! ### states of runs -/
structure Rs where
  pt : Option (Nat × Nat)
  f : Str → Option Int
  out : List Int
  rd : Nat
def nms (bs : List Bk) : List Str := bs.flatMap Bk.df
def ordV (bs : List Bk) (f : Str → Option Int) : List (Str × Int) := (nms bs).filterMap fun x => (f x).map fun v => (x, v)
def vD (q : Str × Int) : D := .tup [.str q.1, .int q.2]
def ptD : Option (Nat × Nat) → D
  | none => .non
  | some (k, i) => .tup [.int (k : Nat), .int (i : Nat)]
def Rs.d (bs : List Bk) (st : Rs) : D := .tup [ptD st.pt, .ct ((ordV bs st.f).map vD), .tup (st.out.map .int), .int (st.rd : Nat)]
def Word (i : Int) : Prop := -32768 ≤ i ∧ i ≤ 32767
/-- a dict of words by names -/
structure Kn (kvs : List (Key × D)) (f : Str → Option Int) : Prop where
  get : ∀ x, getK kvs (.inr x) = (f x).map .int
  vals : ∀ q ∈ kvs, ∃ i : Int, q.2 = .int i
theorem Kn.below {kvs : List (Key × D)} {f : Str → Option Int} (h : Kn kvs f) (n : Nat) : obBelow n (.dK kvs) := belowL_of fun d hd => by
  obtain ⟨q, hq, rfl⟩ := List.mem_map.mp hd
  obtain ⟨i, e⟩ := h.vals q hq
  rw [e]
  trivial
def setF' (f : Str → Option Int) (x : Str) (v : Int) : Str → Option Int := fun y => if y = x then some v else f y
theorem putD_mem {kvs : List (Key × D)} {k : Key} {v : D} {q : Key × D} (h : q ∈ putD kvs k v) : q.2 = v ∨ ∃ r ∈ kvs, q.2 = r.2 := by
  unfold putD at h
  split at h
  · obtain ⟨r, hr, rfl⟩ := List.mem_map.mp h
    split
    · exact .inl rfl
    · exact .inr ⟨r, hr, rfl⟩
  · rcases List.mem_append.mp h with z | z
    · exact .inr ⟨q, z, rfl⟩
    · rw [List.mem_singleton.mp z]; exact .inl rfl
theorem Kn.put {kvs : List (Key × D)} {f : Str → Option Int} (h : Kn kvs f) (x : Str) (v : Int) : Kn (putD kvs (.inr x) (.int v)) (setF' f x v) := by
  refine ⟨fun y => ?_, fun q hq => ?_⟩
  · rw [getK_put]
    unfold setF'
    by_cases z : y = x
    · rw [if_pos (by rw [z]), if_pos z]; rfl
    · rw [if_neg (fun e => z (Sum.inr.inj e)), if_neg z]; exact h.get y
  · rcases putD_mem hq with z | ⟨r, hr, z⟩
    · exact ⟨v, z⟩
    · obtain ⟨i, e⟩ := h.vals r hr
      exact ⟨i, z.trans e⟩
def kv1 (q : Str × Int) : Key × D := (.inr q.1, .int q.2)
/-- the last pair of a name counts -/
def lastOf (f : Str → Option Int) : List (Str × Int) → Str → Option Int
  | [] => f
  | q :: l => lastOf (setF' f q.1 q.2) l
theorem Kn.merge {kvs : List (Key × D)} {f : Str → Option Int} (h : Kn kvs f) (l : List (Str × Int)) : Kn (mergeD kvs (l.map kv1)) (lastOf f l) := by
  induction l generalizing kvs f with
  | nil => exact h
  | cons q l ih =>
    unfold mergeD
    rw [List.map_cons, List.foldl_cons]
    exact ih (h.put q.1 q.2)
/-! ### words -/
def wrapS (i : Int) : Int := (i + 32768) % 65536 - 32768
theorem wrap_word (i : Int) : Word (wrapS i) := by
  unfold wrapS Word
  have := Int.emod_nonneg (i + 32768) (show (65536 : Int) ≠ 0 by decide)
  have := Int.emod_lt_of_pos (i + 32768) (show (0 : Int) < 65536 by decide)
  omega
def opS (o : Str) (a b : Int) : Int := if o = "add" then wrapS (a + b) else if o = "sub" then wrapS (a - b) else if o = "mul" then wrapS (a * b) else if o = "less" then (if a < b then 1 else 0) else if a = b then 1 else 0
theorem op_word (o : Str) (a b : Int) : Word (opS o a b) := by
  unfold opS
  split
  · exact wrap_word _
  split
  · exact wrap_word _
  split
  · exact wrap_word _
  split
  · split <;> exact ⟨by decide, by decide⟩
  · split <;> exact ⟨by decide, by decide⟩
section
variable {F : Nat → List D → S → R D} {G : Nat → D} {J : Pw} {s : S}
theorem wrap_gen (w : s.Wf) (hg : G J.gh = .int 32768) (hw : G J.gw = .int 65536) {i : Int} {Q : D → S → Prop} {E : XP} (hQ : Q (.int (wrapS i)) s) : wp (callB 1 1 (ev F G (rwrap J)).s [.int i] s) Q E := by
  refine wp_callB rfl ?_
  have z : (0 : Int) < 65536 := by decide
  simp only [rwrap, ev, wps_seq, wps_if, wps_ret, wps_nx, wps_fl, wps_expr, wps_set, wps_setT, wps_setI, wps_setF, wps_lks, wp_bool, wp_tru, wp_notM, wp_andM, wp_orM, wp_ifM, wp_op2, wp_op1, wp_arg, wp_cons, wp_nil, wp_lit, wp_mth, wp_meth, wp_mk, wp_pop, wp_get2, wp_lck, wp_v, wp_ok, wps_ok, List.map_cons, List.map_nil, List.length_cons, List.length_nil, Nat.zero_add, Nat.reduceAdd, Nat.reduceSub, List.replicate_zero, List.replicate_succ, List.cons_append, List.nil_append, List.append_nil, List.getElem?_cons_zero, List.getElem?_cons_succ, List.set_cons_zero, List.set_cons_succ, blF, mtF, opF, cmF, f_add, f_sub, f_mul, f_mod, f_fdiv, f_pow, f_lt, f_le, f_gt, f_ge, f_eqi, f_eqs, f_int, f_neg, upd_heap, upd_next, all_heap, all_next, Bool.false_eq_true, if_true, if_false, decide_eq_true_eq, Nat.sub_self, hg, hw, z]
  rw [gc_wf rfl w]
  exact hQ
abbrev WrapF (F : Nat → List D → S → R D) (j : Nat) : Prop := ∀ {s : S} (w : s.Wf) {i : Int} {Q : D → S → Prop} {E : XP} (hQ : Q (.int (wrapS i)) s), wp (F j [.int i] s) Q E
theorem operate_gen (hW : WrapF F J.jwr) (w : s.Wf) {o : Str} {a b : Int} (ha : Word a) (hb : Word b) {Q : D → S → Prop} {E : XP} (hQ : Q (.int (opS o a b)) s) : wp (callB 3 3 (ev F G (roperate J)).s [.str o, .int a, .int b] s) Q E := by
  refine wp_callB rfl ?_
  have gc : ∀ i : Int, gcS s.next [.int i] s = s := fun i => gc_wf rfl w
  simp only [roperate, ev, wps_seq, wps_if, wps_ret, wps_nx, wps_fl, wps_expr, wps_set, wps_setT, wps_setI, wps_setF, wps_lks, wp_bool, wp_tru, wp_notM, wp_andM, wp_orM, wp_ifM, wp_op2, wp_op1, wp_arg, wp_cons, wp_nil, wp_lit, wp_mth, wp_meth, wp_mk, wp_pop, wp_get2, wp_lck, wp_v, wp_ok, wps_ok, List.map_cons, List.map_nil, List.length_cons, List.length_nil, Nat.zero_add, Nat.reduceAdd, Nat.reduceSub, List.replicate_zero, List.replicate_succ, List.cons_append, List.nil_append, List.append_nil, List.getElem?_cons_zero, List.getElem?_cons_succ, List.set_cons_zero, List.set_cons_succ, blF, mtF, opF, cmF, f_add, f_sub, f_mul, f_mod, f_fdiv, f_pow, f_lt, f_le, f_gt, f_ge, f_eqi, f_eqs, f_int, f_neg, upd_heap, upd_next, all_heap, all_next, Bool.false_eq_true, if_true, if_false, decide_eq_true_eq, Nat.sub_self]
  unfold opS at hQ
  by_cases z1 : o = "add"
  · simp only [z1, decide_true, ev, wps_seq, wps_if, wps_ret, wps_nx, wps_fl, wps_expr, wps_set, wps_setT, wps_setI, wps_setF, wps_lks, wp_bool, wp_tru, wp_notM, wp_andM, wp_orM, wp_ifM, wp_op2, wp_op1, wp_arg, wp_cons, wp_nil, wp_lit, wp_mth, wp_meth, wp_mk, wp_pop, wp_get2, wp_lck, wp_v, wp_ok, wps_ok, List.map_cons, List.map_nil, List.length_cons, List.length_nil, Nat.zero_add, Nat.reduceAdd, Nat.reduceSub, List.replicate_zero, List.replicate_succ, List.cons_append, List.nil_append, List.append_nil, List.getElem?_cons_zero, List.getElem?_cons_succ, List.set_cons_zero, List.set_cons_succ, blF, mtF, opF, cmF, f_add, f_sub, f_mul, f_mod, f_fdiv, f_pow, f_lt, f_le, f_gt, f_ge, f_eqi, f_eqs, f_int, f_neg, upd_heap, upd_next, all_heap, all_next, Bool.false_eq_true, if_true, if_false, decide_eq_true_eq, Nat.sub_self]
    rw [if_pos z1] at hQ
    refine hW w ?_
    rw [gc]
    exact hQ
  rw [if_neg z1] at hQ
  simp only [z1, decide_false, ev, wps_seq, wps_if, wps_ret, wps_nx, wps_fl, wps_expr, wps_set, wps_setT, wps_setI, wps_setF, wps_lks, wp_bool, wp_tru, wp_notM, wp_andM, wp_orM, wp_ifM, wp_op2, wp_op1, wp_arg, wp_cons, wp_nil, wp_lit, wp_mth, wp_meth, wp_mk, wp_pop, wp_get2, wp_lck, wp_v, wp_ok, wps_ok, List.map_cons, List.map_nil, List.length_cons, List.length_nil, Nat.zero_add, Nat.reduceAdd, Nat.reduceSub, List.replicate_zero, List.replicate_succ, List.cons_append, List.nil_append, List.append_nil, List.getElem?_cons_zero, List.getElem?_cons_succ, List.set_cons_zero, List.set_cons_succ, blF, mtF, opF, cmF, f_add, f_sub, f_mul, f_mod, f_fdiv, f_pow, f_lt, f_le, f_gt, f_ge, f_eqi, f_eqs, f_int, f_neg, upd_heap, upd_next, all_heap, all_next, Bool.false_eq_true, if_true, if_false, decide_eq_true_eq, Nat.sub_self]
  by_cases z2 : o = "sub"
  · simp only [z2, decide_true, ev, wps_seq, wps_if, wps_ret, wps_nx, wps_fl, wps_expr, wps_set, wps_setT, wps_setI, wps_setF, wps_lks, wp_bool, wp_tru, wp_notM, wp_andM, wp_orM, wp_ifM, wp_op2, wp_op1, wp_arg, wp_cons, wp_nil, wp_lit, wp_mth, wp_meth, wp_mk, wp_pop, wp_get2, wp_lck, wp_v, wp_ok, wps_ok, List.map_cons, List.map_nil, List.length_cons, List.length_nil, Nat.zero_add, Nat.reduceAdd, Nat.reduceSub, List.replicate_zero, List.replicate_succ, List.cons_append, List.nil_append, List.append_nil, List.getElem?_cons_zero, List.getElem?_cons_succ, List.set_cons_zero, List.set_cons_succ, blF, mtF, opF, cmF, f_add, f_sub, f_mul, f_mod, f_fdiv, f_pow, f_lt, f_le, f_gt, f_ge, f_eqi, f_eqs, f_int, f_neg, upd_heap, upd_next, all_heap, all_next, Bool.false_eq_true, if_true, if_false, decide_eq_true_eq, Nat.sub_self]
    rw [if_pos z2] at hQ
    refine hW w ?_
    rw [gc]
    exact hQ
  rw [if_neg z2] at hQ
  simp only [z2, decide_false, ev, wps_seq, wps_if, wps_ret, wps_nx, wps_fl, wps_expr, wps_set, wps_setT, wps_setI, wps_setF, wps_lks, wp_bool, wp_tru, wp_notM, wp_andM, wp_orM, wp_ifM, wp_op2, wp_op1, wp_arg, wp_cons, wp_nil, wp_lit, wp_mth, wp_meth, wp_mk, wp_pop, wp_get2, wp_lck, wp_v, wp_ok, wps_ok, List.map_cons, List.map_nil, List.length_cons, List.length_nil, Nat.zero_add, Nat.reduceAdd, Nat.reduceSub, List.replicate_zero, List.replicate_succ, List.cons_append, List.nil_append, List.append_nil, List.getElem?_cons_zero, List.getElem?_cons_succ, List.set_cons_zero, List.set_cons_succ, blF, mtF, opF, cmF, f_add, f_sub, f_mul, f_mod, f_fdiv, f_pow, f_lt, f_le, f_gt, f_ge, f_eqi, f_eqs, f_int, f_neg, upd_heap, upd_next, all_heap, all_next, Bool.false_eq_true, if_true, if_false, decide_eq_true_eq, Nat.sub_self]
  by_cases z3 : o = "mul"
  · simp only [z3, decide_true, ev, wps_seq, wps_if, wps_ret, wps_nx, wps_fl, wps_expr, wps_set, wps_setT, wps_setI, wps_setF, wps_lks, wp_bool, wp_tru, wp_notM, wp_andM, wp_orM, wp_ifM, wp_op2, wp_op1, wp_arg, wp_cons, wp_nil, wp_lit, wp_mth, wp_meth, wp_mk, wp_pop, wp_get2, wp_lck, wp_v, wp_ok, wps_ok, List.map_cons, List.map_nil, List.length_cons, List.length_nil, Nat.zero_add, Nat.reduceAdd, Nat.reduceSub, List.replicate_zero, List.replicate_succ, List.cons_append, List.nil_append, List.append_nil, List.getElem?_cons_zero, List.getElem?_cons_succ, List.set_cons_zero, List.set_cons_succ, blF, mtF, opF, cmF, f_add, f_sub, f_mul, f_mod, f_fdiv, f_pow, f_lt, f_le, f_gt, f_ge, f_eqi, f_eqs, f_int, f_neg, upd_heap, upd_next, all_heap, all_next, Bool.false_eq_true, if_true, if_false, decide_eq_true_eq, Nat.sub_self]
    rw [if_pos z3] at hQ
    have e64 : (100000 : Int) < 2 ^ 64 := by decide
    have e64' : (-(2 : Int) ^ 64) < -100000 := by decide
    obtain ⟨a1, a2⟩ := ha
    have c : CMul a b := .inl ⟨by omega, by omega⟩
    rw [if_pos c, wp_ok]
    refine hW w ?_
    rw [gc]
    exact hQ
  rw [if_neg z3] at hQ
  simp only [z3, decide_false, ev, wps_seq, wps_if, wps_ret, wps_nx, wps_fl, wps_expr, wps_set, wps_setT, wps_setI, wps_setF, wps_lks, wp_bool, wp_tru, wp_notM, wp_andM, wp_orM, wp_ifM, wp_op2, wp_op1, wp_arg, wp_cons, wp_nil, wp_lit, wp_mth, wp_meth, wp_mk, wp_pop, wp_get2, wp_lck, wp_v, wp_ok, wps_ok, List.map_cons, List.map_nil, List.length_cons, List.length_nil, Nat.zero_add, Nat.reduceAdd, Nat.reduceSub, List.replicate_zero, List.replicate_succ, List.cons_append, List.nil_append, List.append_nil, List.getElem?_cons_zero, List.getElem?_cons_succ, List.set_cons_zero, List.set_cons_succ, blF, mtF, opF, cmF, f_add, f_sub, f_mul, f_mod, f_fdiv, f_pow, f_lt, f_le, f_gt, f_ge, f_eqi, f_eqs, f_int, f_neg, upd_heap, upd_next, all_heap, all_next, Bool.false_eq_true, if_true, if_false, decide_eq_true_eq, Nat.sub_self]
  by_cases z4 : o = "less"
  · simp only [z4, decide_true, ev, wps_seq, wps_if, wps_ret, wps_nx, wps_fl, wps_expr, wps_set, wps_setT, wps_setI, wps_setF, wps_lks, wp_bool, wp_tru, wp_notM, wp_andM, wp_orM, wp_ifM, wp_op2, wp_op1, wp_arg, wp_cons, wp_nil, wp_lit, wp_mth, wp_meth, wp_mk, wp_pop, wp_get2, wp_lck, wp_v, wp_ok, wps_ok, List.map_cons, List.map_nil, List.length_cons, List.length_nil, Nat.zero_add, Nat.reduceAdd, Nat.reduceSub, List.replicate_zero, List.replicate_succ, List.cons_append, List.nil_append, List.append_nil, List.getElem?_cons_zero, List.getElem?_cons_succ, List.set_cons_zero, List.set_cons_succ, blF, mtF, opF, cmF, f_add, f_sub, f_mul, f_mod, f_fdiv, f_pow, f_lt, f_le, f_gt, f_ge, f_eqi, f_eqs, f_int, f_neg, upd_heap, upd_next, all_heap, all_next, Bool.false_eq_true, if_true, if_false, decide_eq_true_eq, Nat.sub_self]
    rw [if_pos z4] at hQ
    by_cases l : a < b
    · simp only [l, decide_true, ev, wps_seq, wps_if, wps_ret, wps_nx, wps_fl, wps_expr, wps_set, wps_setT, wps_setI, wps_setF, wps_lks, wp_bool, wp_tru, wp_notM, wp_andM, wp_orM, wp_ifM, wp_op2, wp_op1, wp_arg, wp_cons, wp_nil, wp_lit, wp_mth, wp_meth, wp_mk, wp_pop, wp_get2, wp_lck, wp_v, wp_ok, wps_ok, List.map_cons, List.map_nil, List.length_cons, List.length_nil, Nat.zero_add, Nat.reduceAdd, Nat.reduceSub, List.replicate_zero, List.replicate_succ, List.cons_append, List.nil_append, List.append_nil, List.getElem?_cons_zero, List.getElem?_cons_succ, List.set_cons_zero, List.set_cons_succ, blF, mtF, opF, cmF, f_add, f_sub, f_mul, f_mod, f_fdiv, f_pow, f_lt, f_le, f_gt, f_ge, f_eqi, f_eqs, f_int, f_neg, upd_heap, upd_next, all_heap, all_next, Bool.false_eq_true, if_true, if_false, decide_eq_true_eq, Nat.sub_self]
      rw [if_pos l] at hQ
      rw [gc]; exact hQ
    · simp only [l, decide_false, ev, wps_seq, wps_if, wps_ret, wps_nx, wps_fl, wps_expr, wps_set, wps_setT, wps_setI, wps_setF, wps_lks, wp_bool, wp_tru, wp_notM, wp_andM, wp_orM, wp_ifM, wp_op2, wp_op1, wp_arg, wp_cons, wp_nil, wp_lit, wp_mth, wp_meth, wp_mk, wp_pop, wp_get2, wp_lck, wp_v, wp_ok, wps_ok, List.map_cons, List.map_nil, List.length_cons, List.length_nil, Nat.zero_add, Nat.reduceAdd, Nat.reduceSub, List.replicate_zero, List.replicate_succ, List.cons_append, List.nil_append, List.append_nil, List.getElem?_cons_zero, List.getElem?_cons_succ, List.set_cons_zero, List.set_cons_succ, blF, mtF, opF, cmF, f_add, f_sub, f_mul, f_mod, f_fdiv, f_pow, f_lt, f_le, f_gt, f_ge, f_eqi, f_eqs, f_int, f_neg, upd_heap, upd_next, all_heap, all_next, Bool.false_eq_true, if_true, if_false, decide_eq_true_eq, Nat.sub_self]
      rw [if_neg l] at hQ
      rw [gc]; exact hQ
  · simp only [z4, decide_false, ev, wps_seq, wps_if, wps_ret, wps_nx, wps_fl, wps_expr, wps_set, wps_setT, wps_setI, wps_setF, wps_lks, wp_bool, wp_tru, wp_notM, wp_andM, wp_orM, wp_ifM, wp_op2, wp_op1, wp_arg, wp_cons, wp_nil, wp_lit, wp_mth, wp_meth, wp_mk, wp_pop, wp_get2, wp_lck, wp_v, wp_ok, wps_ok, List.map_cons, List.map_nil, List.length_cons, List.length_nil, Nat.zero_add, Nat.reduceAdd, Nat.reduceSub, List.replicate_zero, List.replicate_succ, List.cons_append, List.nil_append, List.append_nil, List.getElem?_cons_zero, List.getElem?_cons_succ, List.set_cons_zero, List.set_cons_succ, blF, mtF, opF, cmF, f_add, f_sub, f_mul, f_mod, f_fdiv, f_pow, f_lt, f_le, f_gt, f_ge, f_eqi, f_eqs, f_int, f_neg, upd_heap, upd_next, all_heap, all_next, Bool.false_eq_true, if_true, if_false, decide_eq_true_eq, Nat.sub_self]
    rw [if_neg z4] at hQ
    by_cases l : a = b
    · simp only [l, decide_true, ev, wps_seq, wps_if, wps_ret, wps_nx, wps_fl, wps_expr, wps_set, wps_setT, wps_setI, wps_setF, wps_lks, wp_bool, wp_tru, wp_notM, wp_andM, wp_orM, wp_ifM, wp_op2, wp_op1, wp_arg, wp_cons, wp_nil, wp_lit, wp_mth, wp_meth, wp_mk, wp_pop, wp_get2, wp_lck, wp_v, wp_ok, wps_ok, List.map_cons, List.map_nil, List.length_cons, List.length_nil, Nat.zero_add, Nat.reduceAdd, Nat.reduceSub, List.replicate_zero, List.replicate_succ, List.cons_append, List.nil_append, List.append_nil, List.getElem?_cons_zero, List.getElem?_cons_succ, List.set_cons_zero, List.set_cons_succ, blF, mtF, opF, cmF, f_add, f_sub, f_mul, f_mod, f_fdiv, f_pow, f_lt, f_le, f_gt, f_ge, f_eqi, f_eqs, f_int, f_neg, upd_heap, upd_next, all_heap, all_next, Bool.false_eq_true, if_true, if_false, decide_eq_true_eq, Nat.sub_self]
      rw [if_pos l] at hQ
      rw [gc]; exact hQ
    · simp only [l, decide_false, ev, wps_seq, wps_if, wps_ret, wps_nx, wps_fl, wps_expr, wps_set, wps_setT, wps_setI, wps_setF, wps_lks, wp_bool, wp_tru, wp_notM, wp_andM, wp_orM, wp_ifM, wp_op2, wp_op1, wp_arg, wp_cons, wp_nil, wp_lit, wp_mth, wp_meth, wp_mk, wp_pop, wp_get2, wp_lck, wp_v, wp_ok, wps_ok, List.map_cons, List.map_nil, List.length_cons, List.length_nil, Nat.zero_add, Nat.reduceAdd, Nat.reduceSub, List.replicate_zero, List.replicate_succ, List.cons_append, List.nil_append, List.append_nil, List.getElem?_cons_zero, List.getElem?_cons_succ, List.set_cons_zero, List.set_cons_succ, blF, mtF, opF, cmF, f_add, f_sub, f_mul, f_mod, f_fdiv, f_pow, f_lt, f_le, f_gt, f_ge, f_eqi, f_eqs, f_int, f_neg, upd_heap, upd_next, all_heap, all_next, Bool.false_eq_true, if_true, if_false, decide_eq_true_eq, Nat.sub_self]
      rw [if_neg l] at hQ
      rw [gc]; exact hQ
abbrev OpF (F : Nat → List D → S → R D) (j : Nat) : Prop := ∀ {s : S} (w : s.Wf) {o : Str} {a b : Int} (ha : Word a) (hb : Word b) {Q : D → S → Prop} {E : XP} (hQ : Q (.int (opS o a b)) s), wp (F j [.str o, .int a, .int b] s) Q E
end
end Co
namespace Co
open PySem L2
section
variable {F : Nat → List D → S → R D} {G : Nat → D} {J : Pw} {s0 s : S} {T : List (List Nat)} {bs : List Bk} {fs : List Fin'} {e b : Nat} {f : Str → Option Int} {kvs : List (Key × D)}
/-! ### definitions -/
/-! ### in_order -/
theorem ix_kn (he : s.heap e = some (.dK kvs)) (k : Kn kvs f) {x : Str} {v : Int} (hx : f x = some v) : ixF (.ref e) (.str x) s = .ok (.int v) s := by
  have g := k.get x
  rw [hx] at g
  simp [ixF, seqOf, lstOf, he, dget, dicOf, Co.keyOf, g]
/-! ### first_state -/
def rs0 (bs : List Bk) (inp : List Int) : Rs := ⟨some (0, 0), lastOf (fun _ => none) (((bs.getD 0 ⟨[], []⟩).ps).zip inp), [], 0⟩
end
end Co
namespace Co
open PySem L2
/-! ### row_state -/
structure StOk (bs : List Bk) (st : Rs) : Prop where
  nm : ∀ x v, st.f x = some v → x ∈ nms bs
  wd : ∀ x v, st.f x = some v → Word v
  ow : ∀ v ∈ st.out, Word v
  ol : st.out.length ≤ 1000
def rowS (r : Row) (st : Rs) (k i : Nat) (g : List Int) : Option Rs := match r with
  | .cst x v => some ⟨some (k, i + 1), setF' st.f x v, st.out, st.rd⟩
  | .op x o a b => some ⟨some (k, i + 1), setF' st.f x (opS o ((st.f a).getD 0) ((st.f b).getD 0)), st.out, st.rd⟩
  | .prt v => some ⟨some (k, i + 1), st.f, st.out ++ [(st.f v).getD 0], st.rd⟩
  | .rd x => if st.rd < g.length then some ⟨some (k, i + 1), setF' st.f x (g.getD st.rd 0), st.out, st.rd + 1⟩ else none
section
variable {F : Nat → List D → S → R D} {G : Nat → D} {J : Pw} {s0 s : S} {T : List (List Nat)} {bs : List Bk} {fs : List Fin'} {e b : Nat} {f : Str → Option Int} {kvs : List (Key × D)}
/-- amid a step: the known values at the ref of the first new place -/
structure KnAt (s0 s : S) (e : Nat) (f : Str → Option Int) : Prop where
  wf : s.Wf
  kn : ∃ kvs, s.heap e = some (.dK kvs) ∧ Kn kvs f ∧ kvs.length ≤ 100
  old : s0.next ≤ e
  same : ∀ x, x < s0.next → s.heap x = s0.heap x
theorem KnAt.ix (h : KnAt s0 s e f) {x : Str} {v : Int} (hx : f x = some v) : ixF (.ref e) (.str x) s = .ok (.int v) s := by
  obtain ⟨kvs, h1, h2, _⟩ := h.kn
  exact ix_kn h1 h2 hx
theorem KnAt.put {kvs : List (Key × D)} (w : s.Wf) (h1 : s.heap e = some (.dK kvs)) (h2 : Kn kvs f) (h3 : kvs.length < 100) (o : s0.next ≤ e) (k : ∀ x, x < s0.next → s.heap x = s0.heap x) (x : Str) (v : Int) : ∃ s', putF (.ref e) (.str x) (.int v) s = some s' ∧ KnAt s0 s' e (setF' f x v) ∧ s'.heap e = some (.dK (putD kvs (.inr x) (.int v))) ∧ Kn (putD kvs (.inr x) (.int v)) (setF' f x v) := by
  have z : kvs.length < LINE := by rw [line_is]; omega
  have k2 := h2.put x v
  have pl := putD_len (kvs := kvs) (k := .inr x) (v := .int v)
  refine ⟨s.upd e (.dK (putD kvs (.inr x) (.int v))), by simp only [putF, h1, Co.keyOf, z, if_true], ⟨w.upd (w.lt h1) (k2.below _), ⟨_, by rw [upd_heap, if_pos rfl], k2, by omega⟩, o, fun y hy => ?_⟩, by rw [upd_heap, if_pos rfl], k2⟩
  rw [upd_heap, if_neg (by omega)]
  exact k y hy
end
end Co
namespace Co
open PySem L2
/-! ### end_state -/
def getS' (f : Str → Option Int) (x : Str) : Int := (f x).getD 0
def enterS (bs : List Bk) (st : Rs) (q : Nat × List Str) : Rs := ⟨some (q.1, 0), lastOf st.f (((bs.getD q.1 ⟨[], []⟩).ps).zip (q.2.map (getS' st.f))), st.out, st.rd⟩
def sideS (f : Str → Option Int) : Fin' → Nat
  | .br v _ _ _ _ => if getS' f v = 0 then 1 else 0
  | _ => 0
def endS (bs : List Bk) (fn : Fin') (st : Rs) : Rs := match fn.out[sideS st.f fn]? with
  | none => ⟨none, st.f, st.out, st.rd⟩
  | some q => enterS bs st q
section
variable {F : Nat → List D → S → R D} {G : Nat → D} {J : Pw} {s0 s : S} {T : List (List Nat)} {bs : List Bk} {fs : List Fin'} {e b : Nat} {f : Str → Option Int} {kvs : List (Key × D)}
theorem get_some {f : Str → Option Int} {v : Str} (h : (f v).isSome) : f v = some (getS' f v) := by
  unfold getS'
  cases e : f v with
  | none => rw [e] at h; cases h
  | some x => rfl
end
end Co
namespace Co
open PySem L2
/-! ### what stands in all states of a run -/
def stepS (bs : List Bk) (fs : List Fin') (g : List Int) (st : Rs) : Option Rs := match st.pt with
  | none => none
  | some (k, i) => match bs[k]?, fs[k]? with
    | some b, some fn => match b.rows[i]? with
      | some r => rowS r st k i g
      | none => some (endS bs fn st)
    | _, _ => none
/-- what is defined at the point -/
def Lv (T : List (List Nat)) (bs : List Bk) (st : Rs) : Prop := ∀ k i, st.pt = some (k, i) → k < T.length ∧ ∃ b, bs[k]? = some b ∧ i ≤ b.rows.length ∧ (∀ o ∈ domS T k, o ≠ k → ∀ bo, bs[o]? = some bo → ∀ x ∈ bo.df, (st.f x).isSome) ∧ ∀ x ∈ b.ps ++ (b.rows.take i).filterMap Row.df, (st.f x).isSome
structure StI (T : List (List Nat)) (bs : List Bk) (g : List Int) (m : Nat) (st : Rs) : Prop where
  nm : ∀ x v, st.f x = some v → x ∈ nms bs
  wd : ∀ x v, st.f x = some v → Word v
  ow : ∀ v ∈ st.out, Word v
  ol : st.out.length ≤ m
  lv : Lv T bs st
  rl : st.rd ≤ g.length
theorem StI.ok {T : List (List Nat)} {bs : List Bk} {g : List Int} {m : Nat} {st : Rs} (h : StI T bs g m st) (hm : m ≤ 1000) : StOk bs st := ⟨h.nm, h.wd, h.ow, Nat.le_trans h.ol hm⟩
section
variable {T : List (List Nat)} {bs : List Bk} {fs : List Fin'} {g : List Int} {m : Nat} {st : Rs} {k i : Nat} {b : Bk} {r : Row} {fn : Fin'}
theorem lastOf_some (f : Str → Option Int) (l : List (Str × Int)) (x : Str) (h : (f x).isSome ∨ ∃ q ∈ l, q.1 = x) : (lastOf f l x).isSome := by
  induction l generalizing f with
  | nil =>
    rcases h with h | ⟨q, hq, _⟩
    · exact h
    · cases hq
  | cons p l ih =>
    unfold lastOf
    refine ih _ ?_
    rcases h with h | ⟨q, hq, e⟩
    · left
      unfold setF'
      split
      · rfl
      · exact h
    · rcases List.mem_cons.mp hq with rfl | hq
      · left
        unfold setF'
        rw [if_pos e.symm]
        rfl
      · exact .inr ⟨q, hq, e⟩
theorem lastOf_val {P : Str → Int → Prop} (f : Str → Option Int) (l : List (Str × Int)) (hf : ∀ x v, f x = some v → P x v) (hl : ∀ q ∈ l, P q.1 q.2) : ∀ x v, lastOf f l x = some v → P x v := by
  induction l generalizing f with
  | nil => exact hf
  | cons p l ih =>
    unfold lastOf
    refine ih _ (fun x v h => ?_) fun q hq => hl q (List.mem_cons_of_mem _ hq)
    unfold setF' at h
    split at h
    · rename_i e
      cases h
      rw [e]
      exact hl p List.mem_cons_self
    · exact hf x v h
theorem setF_val {P : Str → Int → Prop} {f : Str → Option Int} {y : Str} {w : Int} (hf : ∀ x v, f x = some v → P x v) (hy : P y w) : ∀ x v, setF' f y w x = some v → P x v := fun x v h => by
  unfold setF' at h
  split at h
  · rename_i e
    cases h
    rw [e]
    exact hy
  · exact hf x v h
theorem setF_some {f : Str → Option Int} {y : Str} {w : Int} {x : Str} (h : (f x).isSome ∨ x = y) : (setF' f y w x).isSome := by
  unfold setF'
  split
  · rfl
  · rename_i e
    exact h.resolve_right e
theorem Lv.row (hp : ProgOk T bs fs) (h : Lv T bs st) (hpt : st.pt = some (k, i)) (hb : bs[k]? = some b) (hr : b.rows[i]? = some r) : ∀ v ∈ r.us, (st.f v).isSome := fun v hv => by
  obtain ⟨hk, b', hb', _, hd, ho⟩ := h k i hpt
  rw [hb] at hb'
  cases hb'
  have hm := (hp.ok k b hb i r hr).us v hv
  unfold viS at hm
  rw [List.append_assoc] at hm
  rcases List.mem_append.mp hm with z | z
  · unfold scopeS at z
    obtain ⟨o, h1, h2⟩ := List.mem_flatMap.mp z
    obtain ⟨h3, h4⟩ := List.mem_filter.mp h1
    have h4 := of_decide_eq_true h4
    unfold defsS at h4 h2
    rw [List.length_map, List.length_take] at h4
    have hb2 := List.getElem?_eq_getElem (show o < bs.length by omega)
    rw [List.getD_eq_getElem?_getD, List.getElem?_map, List.getElem?_take, if_pos (by omega), hb2] at h2
    exact hd o h3 (by omega) _ hb2 v h2
  · exact ho v z
theorem Lv.fin (hp : ProgOk T bs fs) (h : Lv T bs st) (hpt : st.pt = some (k, i)) (hb : bs[k]? = some b) (hi : b.rows[i]? = none) (hf : fs[k]? = some fn) : ∀ v ∈ fn.us, (st.f v).isSome := fun v hv => by
  obtain ⟨hk, b', hb', hil, hd, ho⟩ := h k i hpt
  rw [hb] at hb'
  cases hb'
  have il := List.getElem?_eq_none_iff.mp hi
  have hm := (hp.fo k fn hf).us v hv
  unfold enS at hm
  obtain ⟨o, h1, h2⟩ := List.mem_flatMap.mp hm
  rw [List.getD_eq_getElem?_getD] at h2
  unfold defsS at h2
  rw [List.getElem?_map] at h2
  cases hbo : bs[o]? with
  | none => rw [hbo] at h2; cases h2
  | some bo =>
    rw [hbo] at h2
    by_cases z : o = k
    · subst z
      rw [hb] at hbo
      cases hbo
      refine ho v ?_
      rw [List.take_of_length_le il]
      exact h2
    · exact hd o h1 z bo hbo v h2
theorem mem_nms (hb : bs[k]? = some b) {x : Str} (hx : x ∈ b.df) : x ∈ nms bs := List.mem_flatMap.mpr ⟨b, List.mem_of_getElem? hb, hx⟩
theorem row_df (hr : b.rows[i]? = some r) {x : Str} (hx : r.df = some x) : x ∈ b.df := List.mem_append_right _ (List.mem_filterMap.mpr ⟨r, List.mem_of_getElem? hr, hx⟩)
theorem StI.row (hp : ProgOk T bs fs) (hg : ∀ v ∈ g, Word v) (h : StI T bs g m st) (hpt : st.pt = some (k, i)) (hb : bs[k]? = some b) (hr : b.rows[i]? = some r) {st' : Rs} (e : rowS r st k i g = some st') : StI T bs g (m + 1) st' := by
  have hu := h.lv.row hp hpt hb hr
  have il := (List.getElem?_eq_some_iff.mp hr).1
  obtain ⟨hk, b', hb', hil, hd, ho⟩ := h.lv k i hpt
  rw [hb] at hb'
  cases hb'
  have lv : ∀ (f' : Str → Option Int) (out : List Int) (rd : Nat), (∀ x, (st.f x).isSome → (f' x).isSome) → (∀ x, r.df = some x → (f' x).isSome) → Lv T bs ⟨some (k, i + 1), f', out, rd⟩ := by
    intro f' out rd h1 h2 k' i' ek
    cases ek
    refine ⟨hk, b, hb, il, fun o h3 h4 bo h5 x hx => h1 x (hd o h3 h4 bo h5 x hx), fun x hx => ?_⟩
    rcases List.mem_append.mp hx with z | z
    · exact h1 x (ho x (List.mem_append_left _ z))
    · rw [List.take_add_one, hr, List.filterMap_append] at z
      rcases List.mem_append.mp z with z | z
      · exact h1 x (ho x (List.mem_append_right _ z))
      · have : x ∈ [r].filterMap Row.df := z
        rw [List.mem_filterMap] at this
        obtain ⟨q, hq, e⟩ := this
        rw [List.mem_singleton.mp hq] at e
        exact h2 x e
  have get : ∀ v, v ∈ r.us → Word ((st.f v).getD 0) := fun v hv => by
    have := hu v hv
    cases q : st.f v with
    | none => rw [q] at this; cases this
    | some x => exact h.wd v x q
  cases r with
  | cst x v =>
    cases e
    have hm := mem_nms hb (row_df hr (x := x) rfl)
    have cw := (hp.ok k b hb i _ hr).cs x v rfl
    exact ⟨setF_val h.nm hm, setF_val (P := fun _ v => Word v) h.wd cw, h.ow, Nat.le_succ_of_le h.ol, lv _ _ _ (fun y hy => setF_some (.inl hy)) fun y hy => setF_some (.inr (by cases hy; rfl)), h.rl⟩
  | op x o a b' =>
    cases e
    have hm := mem_nms hb (row_df hr (x := x) rfl)
    exact ⟨setF_val h.nm hm, setF_val (P := fun _ v => Word v) h.wd (op_word _ _ _), h.ow, Nat.le_succ_of_le h.ol, lv _ _ _ (fun y hy => setF_some (.inl hy)) fun y hy => setF_some (.inr (by cases hy; rfl)), h.rl⟩
  | prt v =>
    cases e
    refine ⟨h.nm, h.wd, fun w hw => ?_, ?_, lv _ _ _ (fun y hy => hy) fun y hy => (by cases hy), h.rl⟩
    · rcases List.mem_append.mp hw with z | z
      · exact h.ow w z
      · rw [List.mem_singleton.mp z]; exact get v List.mem_cons_self
    · have := h.ol
      rw [List.length_append]
      show st.out.length + 1 ≤ m + 1
      omega
  | rd x =>
    have er : rowS (.rd x) st k i g = if st.rd < g.length then some ⟨some (k, i + 1), setF' st.f x (g.getD st.rd 0), st.out, st.rd + 1⟩ else none := rfl
    rw [er] at e
    by_cases z : st.rd < g.length
    · rw [if_pos z] at e
      cases e
      have hm := mem_nms hb (row_df hr (x := x) rfl)
      have gw : Word (g.getD st.rd 0) := by
        rw [List.getD_eq_getElem?_getD, List.getElem?_eq_getElem z]
        exact hg _ (List.getElem_mem z)
      exact ⟨setF_val h.nm hm, setF_val (P := fun _ v => Word v) h.wd gw, h.ow, Nat.le_succ_of_le h.ol, lv _ _ _ (fun y hy => setF_some (.inl hy)) fun y hy => setF_some (.inr (by cases hy; rfl)), z⟩
    · rw [if_neg z] at e; cases e
theorem StI.fin (hp : ProgOk T bs fs) (h : StI T bs g m st) (hpt : st.pt = some (k, i)) (hb : bs[k]? = some b) (hi : b.rows[i]? = none) (hf : fs[k]? = some fn) : StI T bs g (m + 1) (endS bs fn st) := by
  have hu := h.lv.fin hp hpt hb hi hf
  have il := List.getElem?_eq_none_iff.mp hi
  obtain ⟨hk, b', hb', hil, hd, ho⟩ := h.lv k i hpt
  rw [hb] at hb'
  cases hb'
  unfold endS
  cases hq : fn.out[sideS st.f fn]? with
  | none => exact ⟨h.nm, h.wd, h.ow, Nat.le_succ_of_le h.ol, fun k i e => (by cases e), h.rl⟩
  | some q =>
    have hqm := List.mem_of_getElem? hq
    have htg : q.1 ∈ T.getD k [] := by
      rw [← (hp.fo k fn hf).tg, ← fn.out_tg]
      exact List.mem_map_of_mem hqm
    have tl := hp.tok.tgt k q.1 htg
    have hbt := List.getElem?_eq_getElem (show q.1 < bs.length by rw [hp.lb]; exact tl)
    have ar : q.2.length = ((bs.getD q.1 ⟨[], []⟩).ps).length := by
      have ha := (hp.fo k fn hf).ar
      rw [← fn.out_ar, ← fn.out_tg, List.map_map] at ha
      exact List.map_inj_left.mp ha q hqm
    have eb : bs.getD q.1 ⟨[], []⟩ = bs[q.1]'(by rw [hp.lb]; exact tl) := by rw [List.getD_eq_getElem?_getD, hbt]; rfl
    have zp : ∀ p ∈ ((bs.getD q.1 ⟨[], []⟩).ps).zip (q.2.map (getS' st.f)), p.1 ∈ (bs.getD q.1 ⟨[], []⟩).ps ∧ ∃ v ∈ q.2, p.2 = getS' st.f v := fun p hpz => by
      obtain ⟨z1, z2⟩ := List.of_mem_zip (show (p.1, p.2) ∈ _ from hpz)
      obtain ⟨v, hv, e⟩ := List.mem_map.mp z2
      exact ⟨z1, v, hv, e.symm⟩
    have wd : ∀ v ∈ q.2, Word (getS' st.f v) := fun v hv => by
      have := hu v (fn.out_us hqm v hv)
      exact h.wd v _ (get_some this)
    refine ⟨lastOf_val (P := fun x _ => x ∈ nms bs) _ _ h.nm fun p hpz => ?_, lastOf_val (P := fun _ v => Word v) _ _ h.wd fun p hpz => ?_, h.ow, Nat.le_succ_of_le h.ol, fun k' i' ek => ?_, h.rl⟩
    · have z1 := (zp p hpz).1
      rw [eb] at z1
      exact mem_nms hbt (List.mem_append_left _ z1)
    · obtain ⟨_, v, hv, e⟩ := zp p hpz
      rw [e]
      exact wd v hv
    · have ek : some (q.1, 0) = some (k', i') := ek
      cases ek
      refine ⟨tl, _, hbt, Nat.zero_le _, fun o h1 h2 bo h3 x hx => lastOf_some _ _ _ (.inl ?_), fun x hx => lastOf_some _ _ _ (.inr ?_)⟩
      · by_cases z : o = k
        · subst z
          rw [hb] at h3
          cases h3
          refine ho x ?_
          rw [List.take_of_length_le il]
          exact hx
        · obtain ⟨ol, nr⟩ := mem_domS.mp h1
          exact hd o (mem_domS.mpr ⟨ol, fun rc => nr (.step rc htg (Ne.symm h2))⟩) z bo h3 x hx
      · have hx : x ∈ (bs[q.1]'(by rw [hp.lb]; exact tl)).ps := by
          rcases List.mem_append.mp hx with z | z
          · exact z
          · rw [List.take_zero] at z; cases z
        rw [eb] at ar ⊢
        obtain ⟨j, hj⟩ := List.mem_iff_getElem?.mp hx
        have jl := (List.getElem?_eq_some_iff.mp hj).1
        have hv := List.getElem?_eq_getElem (show j < (q.2.map (getS' st.f)).length by rw [List.length_map]; omega)
        exact ⟨(x, _), List.mem_of_getElem? (List.getElem?_zip_eq_some.mpr ⟨hj, hv⟩), rfl⟩
theorem StI.step (hp : ProgOk T bs fs) (hg : ∀ v ∈ g, Word v) (h : StI T bs g m st) {st' : Rs} (e : stepS bs fs g st = some st') : StI T bs g (m + 1) st' := by
  unfold stepS at e
  cases hpt : st.pt with
  | none => rw [hpt] at e; cases e
  | some p =>
    obtain ⟨k, i⟩ := p
    rw [hpt] at e
    have e : (match bs[k]?, fs[k]? with
      | some b, some fn => match b.rows[i]? with
        | some r => rowS r st k i g
        | none => some (endS bs fn st)
      | _, _ => none) = some st' := e
    cases hb : bs[k]? with
    | none => rw [hb] at e; cases e
    | some b =>
      cases hf : fs[k]? with
      | none => rw [hb, hf] at e; cases e
      | some fn =>
        rw [hb, hf] at e
        have e : (match b.rows[i]? with
          | some r => rowS r st k i g
          | none => some (endS bs fn st)) = some st' := e
        cases hr : b.rows[i]? with
        | some r =>
          rw [hr] at e
          exact h.row hp hg hpt hb hr e
        | none =>
          rw [hr] at e
          cases e
          exact h.fin hp hpt hb hr hf
theorem StI.first (hp : ProgOk T bs fs) {inp : List Int} (hi : ∀ v ∈ inp, Word v) (hl : inp.length = ((bs.getD 0 ⟨[], []⟩).ps).length) : StI T bs g 0 (rs0 bs inp) := by
  have l0 : 0 < bs.length := by rw [hp.lb]; exact hp.len.1
  have hb := List.getElem?_eq_getElem l0
  have eb : bs.getD 0 ⟨[], []⟩ = bs[0] := by rw [List.getD_eq_getElem?_getD, hb]; rfl
  refine ⟨lastOf_val (P := fun x _ => x ∈ nms bs) _ _ (fun x v e => by cases e) fun p hpz => ?_, lastOf_val (P := fun _ v => Word v) _ _ (fun x v e => by cases e) fun p hpz => ?_, fun v hv => (by cases hv), Nat.le_refl _, fun k' i' ek => ?_, Nat.zero_le _⟩
  · have z1 := (List.of_mem_zip (show (p.1, p.2) ∈ _ from hpz)).1
    rw [eb] at z1
    exact mem_nms hb (List.mem_append_left _ z1)
  · exact hi _ (List.of_mem_zip (show (p.1, p.2) ∈ _ from hpz)).2
  · have ek : some (0, 0) = some (k', i') := ek
    cases ek
    refine ⟨hp.len.1, _, hb, Nat.zero_le _, fun o h1 h2 bo h3 x hx => ?_, fun x hx => lastOf_some _ _ _ (.inr ?_)⟩
    · exact absurd (.zero fun e => h2 e.symm) (mem_domS.mp h1).2
    · have hx : x ∈ bs[0].ps := by
        rcases List.mem_append.mp hx with z | z
        · exact z
        · rw [List.take_zero] at z; cases z
      rw [eb] at hl ⊢
      obtain ⟨j, hj⟩ := List.mem_iff_getElem?.mp hx
      have jl := (List.getElem?_eq_some_iff.mp hj).1
      have hv := List.getElem?_eq_getElem (show j < inp.length by omega)
      exact ⟨(x, _), List.mem_of_getElem? (List.getElem?_zip_eq_some.mpr ⟨hj, hv⟩), rfl⟩
end
end Co
namespace Co
open PySem L2
/-! ### walks -/
section
variable {F : Nat → List D → S → R D} {G : Nat → D} {J : Pw} {s0 s : S} {T : List (List Nat)} {bs : List Bk} {fs : List Fin'} {g inp : List Int} {m most : Nat} {st : Rs} {k i : Nat}
/-! ### returned_value -/
/-! ### run -/
/-! ### words that a law draws -/
variable {a : Nat}
theorem word_gen (hF : DrawF F J.jdr) (w : s.Wf) (hb : Box s a) (ha : a < s.next) {Q : D → S → Prop} {E : XP} (hQ : ∀ v t, Word v → After s a t → Q (.int v) t) : wp (callB 1 1 (ev F G (rword J)).s [.ref a] s) Q E := by
  refine wp_callB rfl ?_
  simp only [rword, ev, wps_seq, wps_if, wps_ret, wps_nx, wps_fl, wps_expr, wps_set, wps_setT, wps_setI, wps_setF, wps_lks, wp_bool, wp_tru, wp_notM, wp_andM, wp_orM, wp_ifM, wp_op2, wp_op1, wp_arg, wp_cons, wp_nil, wp_lit, wp_mth, wp_meth, wp_mk, wp_pop, wp_get2, wp_lck, wp_v, wp_ok, wps_ok, List.map_cons, List.map_nil, List.length_cons, List.length_nil, Nat.zero_add, Nat.reduceAdd, Nat.reduceSub, List.replicate_zero, List.replicate_succ, List.cons_append, List.nil_append, List.append_nil, List.getElem?_cons_zero, List.getElem?_cons_succ, List.set_cons_zero, List.set_cons_succ, blF, mtF, opF, cmF, f_add, f_sub, f_mul, f_mod, f_fdiv, f_pow, f_lt, f_le, f_gt, f_ge, f_eqi, f_eqs, f_int, f_neg, upd_heap, upd_next, all_heap, all_next, Bool.false_eq_true, if_true, if_false, decide_eq_true_eq, Nat.sub_self]
  refine hF w hb 4 (by decide) fun v1 t1 u1 u2 af1 => ?_
  try simp only [ev, wps_seq, wps_if, wps_ret, wps_nx, wps_fl, wps_expr, wps_set, wps_setT, wps_setI, wps_setF, wps_lks, wp_bool, wp_tru, wp_notM, wp_andM, wp_orM, wp_ifM, wp_op2, wp_op1, wp_arg, wp_cons, wp_nil, wp_lit, wp_mth, wp_meth, wp_mk, wp_pop, wp_get2, wp_lck, wp_v, wp_ok, wps_ok, List.map_cons, List.map_nil, List.length_cons, List.length_nil, Nat.zero_add, Nat.reduceAdd, Nat.reduceSub, List.replicate_zero, List.replicate_succ, List.cons_append, List.nil_append, List.append_nil, List.getElem?_cons_zero, List.getElem?_cons_succ, List.set_cons_zero, List.set_cons_succ, blF, mtF, opF, cmF, f_add, f_sub, f_mul, f_mod, f_fdiv, f_pow, f_lt, f_le, f_gt, f_ge, f_eqi, f_eqs, f_int, f_neg, upd_heap, upd_next, all_heap, all_next, Bool.false_eq_true, if_true, if_false, decide_eq_true_eq, Nat.sub_self]
  refine hF af1.wf af1.box 9 (by decide) fun v2 t2 u3 u4 af2 => ?_
  have af12 := af1.trans af2
  try simp only [ev, wps_seq, wps_if, wps_ret, wps_nx, wps_fl, wps_expr, wps_set, wps_setT, wps_setI, wps_setF, wps_lks, wp_bool, wp_tru, wp_notM, wp_andM, wp_orM, wp_ifM, wp_op2, wp_op1, wp_arg, wp_cons, wp_nil, wp_lit, wp_mth, wp_meth, wp_mk, wp_pop, wp_get2, wp_lck, wp_v, wp_ok, wps_ok, List.map_cons, List.map_nil, List.length_cons, List.length_nil, Nat.zero_add, Nat.reduceAdd, Nat.reduceSub, List.replicate_zero, List.replicate_succ, List.cons_append, List.nil_append, List.append_nil, List.getElem?_cons_zero, List.getElem?_cons_succ, List.set_cons_zero, List.set_cons_succ, blF, mtF, opF, cmF, f_add, f_sub, f_mul, f_mod, f_fdiv, f_pow, f_lt, f_le, f_gt, f_ge, f_eqi, f_eqs, f_int, f_neg, upd_heap, upd_next, all_heap, all_next, Bool.false_eq_true, if_true, if_false, decide_eq_true_eq, Nat.sub_self]
  refine hF af2.wf af2.box 900 (by decide) fun v3 t3 u5 u6 af3 => ?_
  have af13 := af12.trans af3
  rw [mkL_lv (by show 5 ≤ 1000; decide)]
  try simp only [ev, wps_seq, wps_if, wps_ret, wps_nx, wps_fl, wps_expr, wps_set, wps_setT, wps_setI, wps_setF, wps_lks, wp_bool, wp_tru, wp_notM, wp_andM, wp_orM, wp_ifM, wp_op2, wp_op1, wp_arg, wp_cons, wp_nil, wp_lit, wp_mth, wp_meth, wp_mk, wp_pop, wp_get2, wp_lck, wp_v, wp_ok, wps_ok, List.map_cons, List.map_nil, List.length_cons, List.length_nil, Nat.zero_add, Nat.reduceAdd, Nat.reduceSub, List.replicate_zero, List.replicate_succ, List.cons_append, List.nil_append, List.append_nil, List.getElem?_cons_zero, List.getElem?_cons_succ, List.set_cons_zero, List.set_cons_succ, blF, mtF, opF, cmF, f_add, f_sub, f_mul, f_mod, f_fdiv, f_pow, f_lt, f_le, f_gt, f_ge, f_eqi, f_eqs, f_int, f_neg, upd_heap, upd_next, all_heap, all_next, Bool.false_eq_true, if_true, if_false, decide_eq_true_eq, Nat.sub_self]
  refine hF af3.wf af3.box 5 (by decide) fun v4 t4 u7 u8 af4 => ?_
  have af14 := af13.trans af4
  obtain ⟨n, rfl⟩ : ∃ n : Nat, v4 = (n : Int) := ⟨v4.toNat, by omega⟩
  have fin : ∀ v, ixF (.lv [.int v1, .int (v2 - 4), .int 32767, .int (-32768), .int v3]) (.int (n : Int)) t4 = .ok (.int v) t4 → Word v → wp (ixF (.lv [.int v1, .int (v2 - 4), .int 32767, .int (-32768), .int v3]) (.int (n : Int)) t4) (fun d s' => Q d (gcS s.next [d] s')) (fun c fs s' => E c fs (gcS s.next (fs.map (·.2)) s')) := fun v e hv => by
    rw [e, wp_ok]
    exact hQ v _ hv (gc_after w af14.box ha (fun x hx hn => af14.same x hn) trivial)
  have hn : n = 0 ∨ n = 1 ∨ n = 2 ∨ n = 3 ∨ n = 4 := by omega
  rcases hn with rfl | rfl | rfl | rfl | rfl
  · exact fin v1 rfl ⟨by omega, by omega⟩
  · exact fin (v2 - 4) rfl ⟨by omega, by omega⟩
  · exact fin 32767 rfl ⟨by omega, by omega⟩
  · exact fin (-32768) rfl ⟨by omega, by omega⟩
  · exact fin v3 rfl ⟨by omega, by omega⟩
abbrev WordF (F : Nat → List D → S → R D) (j : Nat) : Prop := ∀ {s : S} {a : Nat} (w : s.Wf) (hb : Box s a) (ha : a < s.next) {Q : D → S → Prop} {E : XP} (hQ : ∀ v t, Word v → After s a t → Q (.int v) t), wp (F j [.ref a] s) Q E
end
end Co
namespace Co
open PySem L2
/-! ### runs with more steps, and with more words -/
/-! ### their size -/
section
variable {T : List (List Nat)} {bs : List Bk} {fs : List Fin'} {g : List Int} {m : Nat} {st : Rs}
theorem shd_word {v : Int} (h : Word v) : Shd 100 0 (.int v) := shd_int (by
  have : (10 : Nat) ^ 12 = 1000000000000 := by decide
  obtain ⟨h1, h2⟩ := h
  omega)
end
end Co
namespace K00
open PySem L2 Co
theorem isname_ok {k : Nat} (hk : 1 < k) {s : S} (w : s.Wf) {z : Str} (hz : z.length ≤ 1000000) {Q : D → S → Prop} {E : XP} (hQ : Q (.bl (isNameS z)) s) : wp (meanB ds G k 6 [.str z] s) Q E := by
  rw [meanB_eq (by show 1 < k; exact hk), mean_eq (d := d_is_name) rfl]
  exact isname_gen (J := ⟨2, 3, 4⟩) w rfl rfl rfl hz hQ
end K00
namespace K00
open PySem L2 Co
def PW : Pw := ⟨0, 0, 0, 0, 5, 0, 0, 0, 0, 0, 0, 0, 3, 9, 0, 1, .nil⟩
theorem cell_ok (j : Nat) (hj : j = 1) : CellF (mean ds G) j := by
  subst hj
  intro ns k s Q E w h0 hQ
  rw [mean_eq (d := d_law_cell) rfl]
  exact cell_gen ns k s w h0 hQ
theorem cellB_ok {k : Nat} (hk : 0 < k) : CellF (meanB ds G k) 1 := by
  intro ns i s Q E w h0 hQ
  rw [meanB_eq (by show 0 < k; exact hk)]
  exact cell_ok 1 rfl ns i s Q E w h0 hQ
theorem draw_ok {k : Nat} (hk : 0 < k) : DrawF (meanB ds G k) 3 := by
  intro s a w hb m hm Q E hQ
  rw [meanB_eq (by show 0 < k; exact hk), mean_eq (d := d_law_draw) rfl]
  exact draw_gen w hb m hm hQ
theorem digits_ok (ns : List Int) (n : Nat) (hn : n ≤ 1000) (s : S) (w : s.Wf) {Q : D → S → Prop} {E : XP} (hQ : ∀ ms : List Int, Q (.lv (ms.map .int)) s) : wp (mean ds G 7 [.sc (ns.map .int), .int 0, .int n] s) Q E := by
  rw [mean_eq (d := d_law_digits) rfl]
  exact dig_gen (j := 1) (cellB_ok (by decide)) ns n hn s w hQ
theorem wrap_ok {kk : Nat} (hkk : 0 < kk) : WrapF (meanB ds G kk) 0 := by
  intro s w i Q E hQ
  rw [meanB_eq (by show 0 < kk; exact hkk), mean_eq (d := d_wrap) rfl]
  exact wrap_gen (J := PW) w rfl rfl hQ
theorem op_ok {kk : Nat} (hkk : 1 < kk) : OpF (meanB ds G kk) 5 := by
  intro s w o a b ha hb Q E hQ
  rw [meanB_eq (by show 1 < kk; exact hkk), mean_eq (d := d_operate) rfl]
  exact operate_gen (J := PW) (wrap_ok (by decide)) w ha hb hQ
theorem word_ok {kk : Nat} (hkk : 1 < kk) : WordF (meanB ds G kk) 9 := by
  intro s a w hb ha Q E hQ
  rw [meanB_eq (by show 1 < kk; exact hkk), mean_eq (d := d_law_word) rfl]
  exact word_gen (J := PW) (draw_ok (by decide)) w hb ha hQ
theorem same_ok {j : Nat} (hj : 0 < j) {s : S} (w0 : s.Wf) {w k : Nat} {d : D} (h : Shd w k d) (hw : w ≤ 1000000) (hk : k ≤ 60) {Q : D → S → Prop} {E : XP} (hQ : Q (.bl true) s) : wp (meanB ds G j 2 [d, d] s) Q E := by
  rw [meanB_eq (by show 0 < j; exact hj), mean_eq (d := d_law_same) rfl]
  exact same_gen w0 h hw hk hQ
section
variable {s : S} {Q : D → S → Prop} {E : XP}
theorem lwrap_ok {k : Nat} (hk : 0 < k) (w : s.Wf) {i : Int} (hQ : Q (.int (wrapS i)) s) : wp (meanB ds G k 4 [.int i] s) Q E := by
  rw [meanB_eq (by show 0 < k; exact hk), mean_eq (d := d_law_wrap) rfl]
  refine wp_callB rfl ?_
  have z : (0 : Int) < 65536 := by decide
  simp only [d_law_wrap, b_law_wrap, ev, wps_seq, wps_if, wps_ret, wps_nx, wps_fl, wps_expr, wps_set, wps_setT, wps_setI, wps_setF, wps_lks, wp_bool, wp_tru, wp_notM, wp_andM, wp_orM, wp_ifM, wp_op2, wp_op1, wp_arg, wp_cons, wp_nil, wp_lit, wp_mth, wp_meth, wp_mk, wp_pop, wp_get2, wp_lck, wp_v, wp_ok, wps_ok, List.map_cons, List.map_nil, List.length_cons, List.length_nil, Nat.zero_add, Nat.reduceAdd, Nat.reduceSub, List.replicate_zero, List.replicate_succ, List.cons_append, List.nil_append, List.append_nil, List.getElem?_cons_zero, List.getElem?_cons_succ, List.set_cons_zero, List.set_cons_succ, blF, mtF, opF, cmF, f_add, f_sub, f_mul, f_mod, f_fdiv, f_pow, f_lt, f_le, f_gt, f_ge, f_eqi, f_eqs, f_int, f_neg, upd_heap, upd_next, all_heap, all_next, Bool.false_eq_true, if_true, if_false, decide_eq_true_eq, Nat.sub_self, z]
  rw [gc_wf rfl w]
  exact hQ
theorem opS_add (a b : Int) : opS "add" a b = wrapS (a + b) := by unfold opS; rw [if_pos rfl]
theorem opS_sub (a b : Int) : opS "sub" a b = wrapS (a - b) := by unfold opS; rw [if_neg (by decide), if_pos rfl]
theorem opS_mul (a b : Int) : opS "mul" a b = wrapS (a * b) := by unfold opS; rw [if_neg (by decide), if_neg (by decide), if_pos rfl]
theorem opS_less (a b : Int) : opS "less" a b = if a < b then 1 else 0 := by unfold opS; rw [if_neg (by decide), if_neg (by decide), if_neg (by decide), if_pos rfl]
theorem opS_eq (a b : Int) : opS "equal" a b = if a = b then 1 else 0 := by unfold opS; rw [if_neg (by decide), if_neg (by decide), if_neg (by decide), if_neg (by decide)]
theorem oper_ok {k : Nat} (hk : 1 < k) (w : s.Wf) {o : Str} (ho : o ∈ ops5) {x y : Int} (hx : Word x) (hy : Word y) (hQ : Q (.int (opS o x y)) s) : wp (meanB ds G k 8 [.str o, .int x, .int y] s) Q E := by
  rw [meanB_eq (by show 1 < k; exact hk), mean_eq (d := d_law_operated) rfl]
  refine wp_callB rfl ?_
  have gc : ∀ i : Int, gcS s.next [.int i] s = s := fun i => gc_wf rfl w
  have ib : ∀ b : Bool, intB [.bl b] s = .ok (.int (if b then 1 else 0)) s := fun b => by cases b <;> rfl
  have dd : ∀ u v z : Int, dspF [.str "add", .int u, .str "sub", .int v, .str "mul", .int z] s = .ok (.ref s.next) (s.alloc (.dK [(.inr "add", .int u), (.inr "sub", .int v), (.inr "mul", .int z)])) := fun u v z => by
    rfl
  have hp : ∀ (i : Int) (s' : S), (∀ x, x < s.next → s'.heap x = s.heap x) → gcS s.next [.int i] s' = s := fun i s' h => gc_pure w h ⟨trivial, trivial⟩
  have al : ∀ o : Ob, ∀ x, x < s.next → (s.alloc o).heap x = s.heap x := fun o x hx => by rw [all_heap, if_neg (by omega)]
  have cm : CMul x y := by
    have e64 : (100000 : Int) < 2 ^ 64 := by decide
    have e64' : (-(2 : Int) ^ 64) < -100000 := by decide
    obtain ⟨a1, a2⟩ := hx
    exact .inl ⟨by omega, by omega⟩
  simp only [d_law_operated, b_law_operated, ev, wps_seq, wps_if, wps_ret, wps_nx, wps_fl, wps_expr, wps_set, wps_setT, wps_setI, wps_setF, wps_lks, wp_bool, wp_tru, wp_notM, wp_andM, wp_orM, wp_ifM, wp_op2, wp_op1, wp_arg, wp_cons, wp_nil, wp_lit, wp_mth, wp_meth, wp_mk, wp_pop, wp_get2, wp_lck, wp_v, wp_ok, wps_ok, List.map_cons, List.map_nil, List.length_cons, List.length_nil, Nat.zero_add, Nat.reduceAdd, Nat.reduceSub, List.replicate_zero, List.replicate_succ, List.cons_append, List.nil_append, List.append_nil, List.getElem?_cons_zero, List.getElem?_cons_succ, List.set_cons_zero, List.set_cons_succ, blF, mtF, opF, cmF, f_add, f_sub, f_mul, f_mod, f_fdiv, f_pow, f_lt, f_le, f_gt, f_ge, f_eqi, f_eqs, f_int, f_neg, upd_heap, upd_next, all_heap, all_next, Bool.false_eq_true, if_true, if_false, decide_eq_true_eq, Nat.sub_self]
  have hm : o = "add" ∨ o = "sub" ∨ o = "mul" ∨ o = "less" ∨ o = "equal" := by simpa [ops5] using ho
  rcases hm with rfl | rfl | rfl | rfl | rfl
  · have n1 : (("add" : Str) = "less") ↔ False := by decide
    have n2 : (("add" : Str) = "equal") ↔ False := by decide
    have ix : ixF (.ref s.next) (.str "add") (s.alloc (.dK [(.inr "add", .int (x + y)), (.inr "sub", .int (x - y)), (.inr "mul", .int (x * y))])) = .ok (.int (x + y)) (s.alloc (.dK [(.inr "add", .int (x + y)), (.inr "sub", .int (x - y)), (.inr "mul", .int (x * y))])) := by
      have ha : (s.alloc (.dK [(.inr "add", .int (x + y)), (.inr "sub", .int (x - y)), (.inr "mul", .int (x * y))])).heap s.next = some (.dK [(.inr "add", .int (x + y)), (.inr "sub", .int (x - y)), (.inr "mul", .int (x * y))]) := by rw [all_heap, if_pos rfl]
      have hg : getK [((.inr "add" : Key), D.int (x + y)), (.inr "sub", .int (x - y)), (.inr "mul", .int (x * y))] (.inr "add") = some (.int (x + y)) := rfl
      simp [ixF, seqOf, lstOf, ha, dget, dicOf, Co.keyOf, hg]
    simp only [n1, n2, decide_false, ev, wps_seq, wps_if, wps_ret, wps_nx, wps_fl, wps_expr, wps_set, wps_setT, wps_setI, wps_setF, wps_lks, wp_bool, wp_tru, wp_notM, wp_andM, wp_orM, wp_ifM, wp_op2, wp_op1, wp_arg, wp_cons, wp_nil, wp_lit, wp_mth, wp_meth, wp_mk, wp_pop, wp_get2, wp_lck, wp_v, wp_ok, wps_ok, List.map_cons, List.map_nil, List.length_cons, List.length_nil, Nat.zero_add, Nat.reduceAdd, Nat.reduceSub, List.replicate_zero, List.replicate_succ, List.cons_append, List.nil_append, List.append_nil, List.getElem?_cons_zero, List.getElem?_cons_succ, List.set_cons_zero, List.set_cons_succ, blF, mtF, opF, cmF, f_add, f_sub, f_mul, f_mod, f_fdiv, f_pow, f_lt, f_le, f_gt, f_ge, f_eqi, f_eqs, f_int, f_neg, upd_heap, upd_next, all_heap, all_next, Bool.false_eq_true, if_true, if_false, decide_eq_true_eq, Nat.sub_self, cm, dd, ix]
    have w1 : (s.alloc (.dK [(.inr "add", .int (x + y)), (.inr "sub", .int (x - y)), (.inr "mul", .int (x * y))])).Wf := w.alloc ⟨trivial, trivial, trivial, trivial⟩
    refine lwrap_ok (by decide) w1 ?_
    rw [hp _ _ (al _), ← opS_add]
    exact hQ
  · have n1 : (("sub" : Str) = "less") ↔ False := by decide
    have n2 : (("sub" : Str) = "equal") ↔ False := by decide
    have ix : ixF (.ref s.next) (.str "sub") (s.alloc (.dK [(.inr "add", .int (x + y)), (.inr "sub", .int (x - y)), (.inr "mul", .int (x * y))])) = .ok (.int (x - y)) (s.alloc (.dK [(.inr "add", .int (x + y)), (.inr "sub", .int (x - y)), (.inr "mul", .int (x * y))])) := by
      have ha : (s.alloc (.dK [(.inr "add", .int (x + y)), (.inr "sub", .int (x - y)), (.inr "mul", .int (x * y))])).heap s.next = some (.dK [(.inr "add", .int (x + y)), (.inr "sub", .int (x - y)), (.inr "mul", .int (x * y))]) := by rw [all_heap, if_pos rfl]
      have hg : getK [((.inr "add" : Key), D.int (x + y)), (.inr "sub", .int (x - y)), (.inr "mul", .int (x * y))] (.inr "sub") = some (.int (x - y)) := rfl
      simp [ixF, seqOf, lstOf, ha, dget, dicOf, Co.keyOf, hg]
    simp only [n1, n2, decide_false, ev, wps_seq, wps_if, wps_ret, wps_nx, wps_fl, wps_expr, wps_set, wps_setT, wps_setI, wps_setF, wps_lks, wp_bool, wp_tru, wp_notM, wp_andM, wp_orM, wp_ifM, wp_op2, wp_op1, wp_arg, wp_cons, wp_nil, wp_lit, wp_mth, wp_meth, wp_mk, wp_pop, wp_get2, wp_lck, wp_v, wp_ok, wps_ok, List.map_cons, List.map_nil, List.length_cons, List.length_nil, Nat.zero_add, Nat.reduceAdd, Nat.reduceSub, List.replicate_zero, List.replicate_succ, List.cons_append, List.nil_append, List.append_nil, List.getElem?_cons_zero, List.getElem?_cons_succ, List.set_cons_zero, List.set_cons_succ, blF, mtF, opF, cmF, f_add, f_sub, f_mul, f_mod, f_fdiv, f_pow, f_lt, f_le, f_gt, f_ge, f_eqi, f_eqs, f_int, f_neg, upd_heap, upd_next, all_heap, all_next, Bool.false_eq_true, if_true, if_false, decide_eq_true_eq, Nat.sub_self, cm, dd, ix]
    have w1 : (s.alloc (.dK [(.inr "add", .int (x + y)), (.inr "sub", .int (x - y)), (.inr "mul", .int (x * y))])).Wf := w.alloc ⟨trivial, trivial, trivial, trivial⟩
    refine lwrap_ok (by decide) w1 ?_
    rw [hp _ _ (al _), ← opS_sub]
    exact hQ
  · have n1 : (("mul" : Str) = "less") ↔ False := by decide
    have n2 : (("mul" : Str) = "equal") ↔ False := by decide
    have ix : ixF (.ref s.next) (.str "mul") (s.alloc (.dK [(.inr "add", .int (x + y)), (.inr "sub", .int (x - y)), (.inr "mul", .int (x * y))])) = .ok (.int (x * y)) (s.alloc (.dK [(.inr "add", .int (x + y)), (.inr "sub", .int (x - y)), (.inr "mul", .int (x * y))])) := by
      have ha : (s.alloc (.dK [(.inr "add", .int (x + y)), (.inr "sub", .int (x - y)), (.inr "mul", .int (x * y))])).heap s.next = some (.dK [(.inr "add", .int (x + y)), (.inr "sub", .int (x - y)), (.inr "mul", .int (x * y))]) := by rw [all_heap, if_pos rfl]
      have hg : getK [((.inr "add" : Key), D.int (x + y)), (.inr "sub", .int (x - y)), (.inr "mul", .int (x * y))] (.inr "mul") = some (.int (x * y)) := rfl
      simp [ixF, seqOf, lstOf, ha, dget, dicOf, Co.keyOf, hg]
    simp only [n1, n2, decide_false, ev, wps_seq, wps_if, wps_ret, wps_nx, wps_fl, wps_expr, wps_set, wps_setT, wps_setI, wps_setF, wps_lks, wp_bool, wp_tru, wp_notM, wp_andM, wp_orM, wp_ifM, wp_op2, wp_op1, wp_arg, wp_cons, wp_nil, wp_lit, wp_mth, wp_meth, wp_mk, wp_pop, wp_get2, wp_lck, wp_v, wp_ok, wps_ok, List.map_cons, List.map_nil, List.length_cons, List.length_nil, Nat.zero_add, Nat.reduceAdd, Nat.reduceSub, List.replicate_zero, List.replicate_succ, List.cons_append, List.nil_append, List.append_nil, List.getElem?_cons_zero, List.getElem?_cons_succ, List.set_cons_zero, List.set_cons_succ, blF, mtF, opF, cmF, f_add, f_sub, f_mul, f_mod, f_fdiv, f_pow, f_lt, f_le, f_gt, f_ge, f_eqi, f_eqs, f_int, f_neg, upd_heap, upd_next, all_heap, all_next, Bool.false_eq_true, if_true, if_false, decide_eq_true_eq, Nat.sub_self, cm, dd, ix]
    have w1 : (s.alloc (.dK [(.inr "add", .int (x + y)), (.inr "sub", .int (x - y)), (.inr "mul", .int (x * y))])).Wf := w.alloc ⟨trivial, trivial, trivial, trivial⟩
    refine lwrap_ok (by decide) w1 ?_
    rw [hp _ _ (al _), ← opS_mul]
    exact hQ
  · simp only [decide_true, ev, wps_seq, wps_if, wps_ret, wps_nx, wps_fl, wps_expr, wps_set, wps_setT, wps_setI, wps_setF, wps_lks, wp_bool, wp_tru, wp_notM, wp_andM, wp_orM, wp_ifM, wp_op2, wp_op1, wp_arg, wp_cons, wp_nil, wp_lit, wp_mth, wp_meth, wp_mk, wp_pop, wp_get2, wp_lck, wp_v, wp_ok, wps_ok, List.map_cons, List.map_nil, List.length_cons, List.length_nil, Nat.zero_add, Nat.reduceAdd, Nat.reduceSub, List.replicate_zero, List.replicate_succ, List.cons_append, List.nil_append, List.append_nil, List.getElem?_cons_zero, List.getElem?_cons_succ, List.set_cons_zero, List.set_cons_succ, blF, mtF, opF, cmF, f_add, f_sub, f_mul, f_mod, f_fdiv, f_pow, f_lt, f_le, f_gt, f_ge, f_eqi, f_eqs, f_int, f_neg, upd_heap, upd_next, all_heap, all_next, Bool.false_eq_true, if_true, if_false, decide_eq_true_eq, Nat.sub_self, ib]
    rw [gc]
    rw [opS_less] at hQ
    exact hQ
  · have n1 : (("equal" : Str) = "less") ↔ False := by decide
    simp only [n1, decide_false, decide_true, ev, wps_seq, wps_if, wps_ret, wps_nx, wps_fl, wps_expr, wps_set, wps_setT, wps_setI, wps_setF, wps_lks, wp_bool, wp_tru, wp_notM, wp_andM, wp_orM, wp_ifM, wp_op2, wp_op1, wp_arg, wp_cons, wp_nil, wp_lit, wp_mth, wp_meth, wp_mk, wp_pop, wp_get2, wp_lck, wp_v, wp_ok, wps_ok, List.map_cons, List.map_nil, List.length_cons, List.length_nil, Nat.zero_add, Nat.reduceAdd, Nat.reduceSub, List.replicate_zero, List.replicate_succ, List.cons_append, List.nil_append, List.append_nil, List.getElem?_cons_zero, List.getElem?_cons_succ, List.set_cons_zero, List.set_cons_succ, blF, mtF, opF, cmF, f_add, f_sub, f_mul, f_mod, f_fdiv, f_pow, f_lt, f_le, f_gt, f_ge, f_eqi, f_eqs, f_int, f_neg, upd_heap, upd_next, all_heap, all_next, Bool.false_eq_true, if_true, if_false, decide_eq_true_eq, Nat.sub_self, ib]
    rw [gc]
    rw [opS_eq] at hQ
    exact hQ
end
section
variable {s : S} {a : Nat}
theorem wrapS_id {v : Int} (h : Word v) : wrapS v = v := by
  obtain ⟨h1, h2⟩ := h
  unfold wrapS
  omega
theorem opS_back {x y : Int} (hx : Word x) (hy : Word y) : opS "sub" (opS "add" x y) y = x := by
  obtain ⟨h1, h2⟩ := hx
  obtain ⟨h3, h4⟩ := hy
  rw [opS_sub, opS_add]
  unfold wrapS
  omega
theorem wrap_mod (v : Int) : (v - wrapS v) % 65536 = 0 := by
  unfold wrapS
  omega
theorem five_ok {x0 x1 x2 x3 x4 x5 x8 x9 : Option D} {x y : Int} (w : s.Wf) (hx : Word x) (hy : Word y) {Q : QS} (hQ : ∀ x8, Q .nx [x0, x1, x2, x3, x4, x5, some (.int x), some (.int y), x8, x9] s) :
    wps ((ev (meanB ds G 2) G (.fors (.name 8) (.it (.lst false (.cons (.str "add") (.cons (.str "sub") (.cons (.str "mul") (.cons (.str "less") (.cons (.str "equal") .nil))))))) b_law_l2)).s [x0, x1, x2, x3, x4, x5, some (.int x), some (.int y), x8, x9] s) Q := by
  simp only [ev]
  have hi : anyItM (argM (mkL false) (consM (litM (.str "add")) (consM (litM (.str "sub")) (consM (litM (.str "mul")) (consM (litM (.str "less")) (consM (litM (.str "equal")) nilM)))))) [x0, x1, x2, x3, x4, x5, some (.int x), some (.int y), x8, x9] s = .ok (ops5.map .str, none) s := rfl
  refine wps_for (fun i env t => ∃ x8, env = [x0, x1, x2, x3, x4, x5, some (.int x), some (.int y), x8, x9] ∧ t = s) hi ⟨_, rfl, rfl⟩ (fun _ _ _ _ _ => trivial) (fun i d env t hd hI => ?_) fun env t hI => ?_
  · obtain ⟨x8, rfl, rfl⟩ := hI
    rw [List.getElem?_map] at hd
    obtain ⟨o, ho, rfl⟩ := Option.map_eq_some_iff.mp hd
    refine ⟨_, rfl, ?_⟩
    simp only [b_law_l2, ev, wps_seq, wps_if, wps_ret, wps_nx, wps_fl, wps_expr, wps_set, wps_setT, wps_setI, wps_setF, wps_lks, wp_bool, wp_tru, wp_notM, wp_andM, wp_orM, wp_ifM, wp_op2, wp_op1, wp_arg, wp_cons, wp_nil, wp_lit, wp_mth, wp_meth, wp_mk, wp_pop, wp_get2, wp_lck, wp_v, wp_ok, wps_ok, List.map_cons, List.map_nil, List.length_cons, List.length_nil, Nat.zero_add, Nat.reduceAdd, Nat.reduceSub, List.replicate_zero, List.replicate_succ, List.cons_append, List.nil_append, List.append_nil, List.getElem?_cons_zero, List.getElem?_cons_succ, List.set_cons_zero, List.set_cons_succ, blF, mtF, opF, cmF, f_add, f_sub, f_mul, f_mod, f_fdiv, f_pow, f_lt, f_le, f_gt, f_ge, f_eqi, f_eqs, f_int, f_neg, upd_heap, upd_next, all_heap, all_next, Bool.false_eq_true, if_true, if_false, decide_eq_true_eq, Nat.sub_self]
    refine op_ok (by decide) w hx hy ?_
    refine oper_ok (by decide) w (List.mem_of_getElem? ho) hx hy ?_
    refine same_ok (by decide) w (shd_word (op_word o x y)) (by decide) (by decide) ?_
    simp only [truD, Bool.not_true, ev, wps_seq, wps_if, wps_ret, wps_nx, wps_fl, wps_expr, wps_set, wps_setT, wps_setI, wps_setF, wps_lks, wp_bool, wp_tru, wp_notM, wp_andM, wp_orM, wp_ifM, wp_op2, wp_op1, wp_arg, wp_cons, wp_nil, wp_lit, wp_mth, wp_meth, wp_mk, wp_pop, wp_get2, wp_lck, wp_v, wp_ok, wps_ok, List.map_cons, List.map_nil, List.length_cons, List.length_nil, Nat.zero_add, Nat.reduceAdd, Nat.reduceSub, List.replicate_zero, List.replicate_succ, List.cons_append, List.nil_append, List.append_nil, List.getElem?_cons_zero, List.getElem?_cons_succ, List.set_cons_zero, List.set_cons_succ, blF, mtF, opF, cmF, f_add, f_sub, f_mul, f_mod, f_fdiv, f_pow, f_lt, f_le, f_gt, f_ge, f_eqi, f_eqs, f_int, f_neg, upd_heap, upd_next, all_heap, all_next, Bool.false_eq_true, if_true, if_false, decide_eq_true_eq, Nat.sub_self]
    exact ⟨_, rfl, trivial⟩
  · obtain ⟨x8, rfl, rfl⟩ := hI
    exact hQ _
theorem turn_ok {x0 x2 x3 x4 x5 x6 x7 x8 x9 : Option D} (w : s.Wf) (hb : Box s a) (ha : a < s.next) {Q : QS} (hQ : ∀ t x4 x5 x6 x7 x8, After s a t → Q .nx [x0, some (.ref a), x2, x3, x4, x5, x6, x7, x8, x9] t) :
    wps ((ev (meanB ds G 2) G b_law_l1).s [x0, some (.ref a), x2, x3, x4, x5, x6, x7, x8, x9] s) Q := by
  generalize h5 : (C.fors (.name 8) (.it (.lst false (.cons (.str "add") (.cons (.str "sub") (.cons (.str "mul") (.cons (.str "less") (.cons (.str "equal") .nil))))))) b_law_l2) = c5
  simp only [b_law_l1, h5, ev, wps_seq, wps_if, wps_ret, wps_nx, wps_fl, wps_expr, wps_set, wps_setT, wps_setI, wps_setF, wps_lks, wp_bool, wp_tru, wp_notM, wp_andM, wp_orM, wp_ifM, wp_op2, wp_op1, wp_arg, wp_cons, wp_nil, wp_lit, wp_mth, wp_meth, wp_mk, wp_pop, wp_get2, wp_lck, wp_v, wp_ok, wps_ok, List.map_cons, List.map_nil, List.length_cons, List.length_nil, Nat.zero_add, Nat.reduceAdd, Nat.reduceSub, List.replicate_zero, List.replicate_succ, List.cons_append, List.nil_append, List.append_nil, List.getElem?_cons_zero, List.getElem?_cons_succ, List.set_cons_zero, List.set_cons_succ, blF, mtF, opF, cmF, f_add, f_sub, f_mul, f_mod, f_fdiv, f_pow, f_lt, f_le, f_gt, f_ge, f_eqi, f_eqs, f_int, f_neg, upd_heap, upd_next, all_heap, all_next, Bool.false_eq_true, if_true, if_false, decide_eq_true_eq, Nat.sub_self]
  refine draw_ok (by decide) w hb 900 (by decide) fun v1 t1 u1 u2 af1 => ?_
  try simp only [ev, wps_seq, wps_if, wps_ret, wps_nx, wps_fl, wps_expr, wps_set, wps_setT, wps_setI, wps_setF, wps_lks, wp_bool, wp_tru, wp_notM, wp_andM, wp_orM, wp_ifM, wp_op2, wp_op1, wp_arg, wp_cons, wp_nil, wp_lit, wp_mth, wp_meth, wp_mk, wp_pop, wp_get2, wp_lck, wp_v, wp_ok, wps_ok, List.map_cons, List.map_nil, List.length_cons, List.length_nil, Nat.zero_add, Nat.reduceAdd, Nat.reduceSub, List.replicate_zero, List.replicate_succ, List.cons_append, List.nil_append, List.append_nil, List.getElem?_cons_zero, List.getElem?_cons_succ, List.set_cons_zero, List.set_cons_succ, blF, mtF, opF, cmF, f_add, f_sub, f_mul, f_mod, f_fdiv, f_pow, f_lt, f_le, f_gt, f_ge, f_eqi, f_eqs, f_int, f_neg, upd_heap, upd_next, all_heap, all_next, Bool.false_eq_true, if_true, if_false, decide_eq_true_eq, Nat.sub_self]
  refine draw_ok (by decide) af1.wf af1.box 16 (by decide) fun v2 t2 u3 u4 af2 => ?_
  try simp only [ev, wps_seq, wps_if, wps_ret, wps_nx, wps_fl, wps_expr, wps_set, wps_setT, wps_setI, wps_setF, wps_lks, wp_bool, wp_tru, wp_notM, wp_andM, wp_orM, wp_ifM, wp_op2, wp_op1, wp_arg, wp_cons, wp_nil, wp_lit, wp_mth, wp_meth, wp_mk, wp_pop, wp_get2, wp_lck, wp_v, wp_ok, wps_ok, List.map_cons, List.map_nil, List.length_cons, List.length_nil, Nat.zero_add, Nat.reduceAdd, Nat.reduceSub, List.replicate_zero, List.replicate_succ, List.cons_append, List.nil_append, List.append_nil, List.getElem?_cons_zero, List.getElem?_cons_succ, List.set_cons_zero, List.set_cons_succ, blF, mtF, opF, cmF, f_add, f_sub, f_mul, f_mod, f_fdiv, f_pow, f_lt, f_le, f_gt, f_ge, f_eqi, f_eqs, f_int, f_neg, upd_heap, upd_next, all_heap, all_next, Bool.false_eq_true, if_true, if_false, decide_eq_true_eq, Nat.sub_self]
  refine draw_ok (by decide) af2.wf af2.box 16 (by decide) fun v3 t3 u5 u6 af3 => ?_
  try simp only [ev, wps_seq, wps_if, wps_ret, wps_nx, wps_fl, wps_expr, wps_set, wps_setT, wps_setI, wps_setF, wps_lks, wp_bool, wp_tru, wp_notM, wp_andM, wp_orM, wp_ifM, wp_op2, wp_op1, wp_arg, wp_cons, wp_nil, wp_lit, wp_mth, wp_meth, wp_mk, wp_pop, wp_get2, wp_lck, wp_v, wp_ok, wps_ok, List.map_cons, List.map_nil, List.length_cons, List.length_nil, Nat.zero_add, Nat.reduceAdd, Nat.reduceSub, List.replicate_zero, List.replicate_succ, List.cons_append, List.nil_append, List.append_nil, List.getElem?_cons_zero, List.getElem?_cons_succ, List.set_cons_zero, List.set_cons_succ, blF, mtF, opF, cmF, f_add, f_sub, f_mul, f_mod, f_fdiv, f_pow, f_lt, f_le, f_gt, f_ge, f_eqi, f_eqs, f_int, f_neg, upd_heap, upd_next, all_heap, all_next, Bool.false_eq_true, if_true, if_false, decide_eq_true_eq, Nat.sub_self]
  refine draw_ok (by decide) af3.wf af3.box 9 (by decide) fun v4 t4 u7 u8 af4 => ?_
  have cm : CMul 65536 (v4 - 4) := by
    have e64 : (100000 : Int) < 2 ^ 64 := by decide
    have e64' : (-(2 : Int) ^ 64) < -100000 := by decide
    exact .inl ⟨by omega, by omega⟩
  try simp only [cm, ev, wps_seq, wps_if, wps_ret, wps_nx, wps_fl, wps_expr, wps_set, wps_setT, wps_setI, wps_setF, wps_lks, wp_bool, wp_tru, wp_notM, wp_andM, wp_orM, wp_ifM, wp_op2, wp_op1, wp_arg, wp_cons, wp_nil, wp_lit, wp_mth, wp_meth, wp_mk, wp_pop, wp_get2, wp_lck, wp_v, wp_ok, wps_ok, List.map_cons, List.map_nil, List.length_cons, List.length_nil, Nat.zero_add, Nat.reduceAdd, Nat.reduceSub, List.replicate_zero, List.replicate_succ, List.cons_append, List.nil_append, List.append_nil, List.getElem?_cons_zero, List.getElem?_cons_succ, List.set_cons_zero, List.set_cons_succ, blF, mtF, opF, cmF, f_add, f_sub, f_mul, f_mod, f_fdiv, f_pow, f_lt, f_le, f_gt, f_ge, f_eqi, f_eqs, f_int, f_neg, upd_heap, upd_next, all_heap, all_next, Bool.false_eq_true, if_true, if_false, decide_eq_true_eq, Nat.sub_self]
  refine draw_ok (by decide) af4.wf af4.box 9 (by decide) fun v5 t5 u9 u10 af5 => ?_
  try simp only [ev, wps_seq, wps_if, wps_ret, wps_nx, wps_fl, wps_expr, wps_set, wps_setT, wps_setI, wps_setF, wps_lks, wp_bool, wp_tru, wp_notM, wp_andM, wp_orM, wp_ifM, wp_op2, wp_op1, wp_arg, wp_cons, wp_nil, wp_lit, wp_mth, wp_meth, wp_mk, wp_pop, wp_get2, wp_lck, wp_v, wp_ok, wps_ok, List.map_cons, List.map_nil, List.length_cons, List.length_nil, Nat.zero_add, Nat.reduceAdd, Nat.reduceSub, List.replicate_zero, List.replicate_succ, List.cons_append, List.nil_append, List.append_nil, List.getElem?_cons_zero, List.getElem?_cons_succ, List.set_cons_zero, List.set_cons_succ, blF, mtF, opF, cmF, f_add, f_sub, f_mul, f_mod, f_fdiv, f_pow, f_lt, f_le, f_gt, f_ge, f_eqi, f_eqs, f_int, f_neg, upd_heap, upd_next, all_heap, all_next, Bool.false_eq_true, if_true, if_false, decide_eq_true_eq, Nat.sub_self]
  rw [mkL_lv (by show 4 ≤ 1000; decide)]
  try simp only [ev, wps_seq, wps_if, wps_ret, wps_nx, wps_fl, wps_expr, wps_set, wps_setT, wps_setI, wps_setF, wps_lks, wp_bool, wp_tru, wp_notM, wp_andM, wp_orM, wp_ifM, wp_op2, wp_op1, wp_arg, wp_cons, wp_nil, wp_lit, wp_mth, wp_meth, wp_mk, wp_pop, wp_get2, wp_lck, wp_v, wp_ok, wps_ok, List.map_cons, List.map_nil, List.length_cons, List.length_nil, Nat.zero_add, Nat.reduceAdd, Nat.reduceSub, List.replicate_zero, List.replicate_succ, List.cons_append, List.nil_append, List.append_nil, List.getElem?_cons_zero, List.getElem?_cons_succ, List.set_cons_zero, List.set_cons_succ, blF, mtF, opF, cmF, f_add, f_sub, f_mul, f_mod, f_fdiv, f_pow, f_lt, f_le, f_gt, f_ge, f_eqi, f_eqs, f_int, f_neg, upd_heap, upd_next, all_heap, all_next, Bool.false_eq_true, if_true, if_false, decide_eq_true_eq, Nat.sub_self]
  refine draw_ok (by decide) af5.wf af5.box 4 (by decide) fun v6 t6 u11 u12 af6 => ?_
  have ag := ((((af1.trans af2).trans af3).trans af4).trans af5).trans af6
  obtain ⟨n, hn⟩ : ∃ n : Int, ixF (.lv [.int (v1 - 450), .int (32760 + v2), .int (-32776 + v3), .int (65536 * (v4 - 4) + v5)]) (.int v6) t6 = .ok (.int n) t6 := by
    have hq : v6 = 0 ∨ v6 = 1 ∨ v6 = 2 ∨ v6 = 3 := by omega
    rcases hq with rfl | rfl | rfl | rfl <;> exact ⟨_, rfl⟩
  rw [hn]
  try simp only [ev, wps_seq, wps_if, wps_ret, wps_nx, wps_fl, wps_expr, wps_set, wps_setT, wps_setI, wps_setF, wps_lks, wp_bool, wp_tru, wp_notM, wp_andM, wp_orM, wp_ifM, wp_op2, wp_op1, wp_arg, wp_cons, wp_nil, wp_lit, wp_mth, wp_meth, wp_mk, wp_pop, wp_get2, wp_lck, wp_v, wp_ok, wps_ok, List.map_cons, List.map_nil, List.length_cons, List.length_nil, Nat.zero_add, Nat.reduceAdd, Nat.reduceSub, List.replicate_zero, List.replicate_succ, List.cons_append, List.nil_append, List.append_nil, List.getElem?_cons_zero, List.getElem?_cons_succ, List.set_cons_zero, List.set_cons_succ, blF, mtF, opF, cmF, f_add, f_sub, f_mul, f_mod, f_fdiv, f_pow, f_lt, f_le, f_gt, f_ge, f_eqi, f_eqs, f_int, f_neg, upd_heap, upd_next, all_heap, all_next, Bool.false_eq_true, if_true, if_false, decide_eq_true_eq, Nat.sub_self]
  refine wrap_ok (by decide) ag.wf ?_
  obtain ⟨k1, k2⟩ := wrap_word n
  have c1 : decide ((-32768 : Int) ≤ wrapS n) = true := decide_eq_true (by omega)
  have c2 : decide (wrapS n ≤ (32767 : Int)) = true := decide_eq_true (by omega)
  have isi : isiF "int" (.int (wrapS n)) t6 = .ok (.bl true) t6 := rfl
  have m0 : (0 : Int) < 65536 := by decide
  simp only [isi, truD, Bool.not_true, wp_chn, c1, c2, m0, wrap_mod, decide_true, Bool.not_true, ev, wps_seq, wps_if, wps_ret, wps_nx, wps_fl, wps_expr, wps_set, wps_setT, wps_setI, wps_setF, wps_lks, wp_bool, wp_tru, wp_notM, wp_andM, wp_orM, wp_ifM, wp_op2, wp_op1, wp_arg, wp_cons, wp_nil, wp_lit, wp_mth, wp_meth, wp_mk, wp_pop, wp_get2, wp_lck, wp_v, wp_ok, wps_ok, List.map_cons, List.map_nil, List.length_cons, List.length_nil, Nat.zero_add, Nat.reduceAdd, Nat.reduceSub, List.replicate_zero, List.replicate_succ, List.cons_append, List.nil_append, List.append_nil, List.getElem?_cons_zero, List.getElem?_cons_succ, List.set_cons_zero, List.set_cons_succ, blF, mtF, opF, cmF, f_add, f_sub, f_mul, f_mod, f_fdiv, f_pow, f_lt, f_le, f_gt, f_ge, f_eqi, f_eqs, f_int, f_neg, upd_heap, upd_next, all_heap, all_next, Bool.false_eq_true, if_true, if_false, decide_eq_true_eq, Nat.sub_self]
  have la := ag.next
  refine word_ok (by decide) ag.wf ag.box (by omega) fun x t7 hx af7 => ?_
  try simp only [ev, wps_seq, wps_if, wps_ret, wps_nx, wps_fl, wps_expr, wps_set, wps_setT, wps_setI, wps_setF, wps_lks, wp_bool, wp_tru, wp_notM, wp_andM, wp_orM, wp_ifM, wp_op2, wp_op1, wp_arg, wp_cons, wp_nil, wp_lit, wp_mth, wp_meth, wp_mk, wp_pop, wp_get2, wp_lck, wp_v, wp_ok, wps_ok, List.map_cons, List.map_nil, List.length_cons, List.length_nil, Nat.zero_add, Nat.reduceAdd, Nat.reduceSub, List.replicate_zero, List.replicate_succ, List.cons_append, List.nil_append, List.append_nil, List.getElem?_cons_zero, List.getElem?_cons_succ, List.set_cons_zero, List.set_cons_succ, blF, mtF, opF, cmF, f_add, f_sub, f_mul, f_mod, f_fdiv, f_pow, f_lt, f_le, f_gt, f_ge, f_eqi, f_eqs, f_int, f_neg, upd_heap, upd_next, all_heap, all_next, Bool.false_eq_true, if_true, if_false, decide_eq_true_eq, Nat.sub_self]
  have la7 := af7.next
  refine word_ok (by decide) af7.wf af7.box (by omega) fun y t8 hy af8 => ?_
  try simp only [ev, wps_seq, wps_if, wps_ret, wps_nx, wps_fl, wps_expr, wps_set, wps_setT, wps_setI, wps_setF, wps_lks, wp_bool, wp_tru, wp_notM, wp_andM, wp_orM, wp_ifM, wp_op2, wp_op1, wp_arg, wp_cons, wp_nil, wp_lit, wp_mth, wp_meth, wp_mk, wp_pop, wp_get2, wp_lck, wp_v, wp_ok, wps_ok, List.map_cons, List.map_nil, List.length_cons, List.length_nil, Nat.zero_add, Nat.reduceAdd, Nat.reduceSub, List.replicate_zero, List.replicate_succ, List.cons_append, List.nil_append, List.append_nil, List.getElem?_cons_zero, List.getElem?_cons_succ, List.set_cons_zero, List.set_cons_succ, blF, mtF, opF, cmF, f_add, f_sub, f_mul, f_mod, f_fdiv, f_pow, f_lt, f_le, f_gt, f_ge, f_eqi, f_eqs, f_int, f_neg, upd_heap, upd_next, all_heap, all_next, Bool.false_eq_true, if_true, if_false, decide_eq_true_eq, Nat.sub_self]
  subst h5
  refine five_ok af8.wf hx hy fun x8 => ?_
  simp only [ev, wps_seq, wps_if, wps_ret, wps_nx, wps_fl, wps_expr, wps_set, wps_setT, wps_setI, wps_setF, wps_lks, wp_bool, wp_tru, wp_notM, wp_andM, wp_orM, wp_ifM, wp_op2, wp_op1, wp_arg, wp_cons, wp_nil, wp_lit, wp_mth, wp_meth, wp_mk, wp_pop, wp_get2, wp_lck, wp_v, wp_ok, wps_ok, List.map_cons, List.map_nil, List.length_cons, List.length_nil, Nat.zero_add, Nat.reduceAdd, Nat.reduceSub, List.replicate_zero, List.replicate_succ, List.cons_append, List.nil_append, List.append_nil, List.getElem?_cons_zero, List.getElem?_cons_succ, List.set_cons_zero, List.set_cons_succ, blF, mtF, opF, cmF, f_add, f_sub, f_mul, f_mod, f_fdiv, f_pow, f_lt, f_le, f_gt, f_ge, f_eqi, f_eqs, f_int, f_neg, upd_heap, upd_next, all_heap, all_next, Bool.false_eq_true, if_true, if_false, decide_eq_true_eq, Nat.sub_self]
  refine wrap_ok (by decide) af8.wf ?_
  simp only [wrapS_id hx, decide_true, Bool.not_true, ev, wps_seq, wps_if, wps_ret, wps_nx, wps_fl, wps_expr, wps_set, wps_setT, wps_setI, wps_setF, wps_lks, wp_bool, wp_tru, wp_notM, wp_andM, wp_orM, wp_ifM, wp_op2, wp_op1, wp_arg, wp_cons, wp_nil, wp_lit, wp_mth, wp_meth, wp_mk, wp_pop, wp_get2, wp_lck, wp_v, wp_ok, wps_ok, List.map_cons, List.map_nil, List.length_cons, List.length_nil, Nat.zero_add, Nat.reduceAdd, Nat.reduceSub, List.replicate_zero, List.replicate_succ, List.cons_append, List.nil_append, List.append_nil, List.getElem?_cons_zero, List.getElem?_cons_succ, List.set_cons_zero, List.set_cons_succ, blF, mtF, opF, cmF, f_add, f_sub, f_mul, f_mod, f_fdiv, f_pow, f_lt, f_le, f_gt, f_ge, f_eqi, f_eqs, f_int, f_neg, upd_heap, upd_next, all_heap, all_next, Bool.false_eq_true, if_true, if_false, decide_eq_true_eq, Nat.sub_self]
  refine op_ok (by decide) af8.wf hx hy ?_
  refine op_ok (by decide) af8.wf (op_word _ _ _) hy ?_
  simp only [opS_back hx hy, decide_true, Bool.not_true, ev, wps_seq, wps_if, wps_ret, wps_nx, wps_fl, wps_expr, wps_set, wps_setT, wps_setI, wps_setF, wps_lks, wp_bool, wp_tru, wp_notM, wp_andM, wp_orM, wp_ifM, wp_op2, wp_op1, wp_arg, wp_cons, wp_nil, wp_lit, wp_mth, wp_meth, wp_mk, wp_pop, wp_get2, wp_lck, wp_v, wp_ok, wps_ok, List.map_cons, List.map_nil, List.length_cons, List.length_nil, Nat.zero_add, Nat.reduceAdd, Nat.reduceSub, List.replicate_zero, List.replicate_succ, List.cons_append, List.nil_append, List.append_nil, List.getElem?_cons_zero, List.getElem?_cons_succ, List.set_cons_zero, List.set_cons_succ, blF, mtF, opF, cmF, f_add, f_sub, f_mul, f_mod, f_fdiv, f_pow, f_lt, f_le, f_gt, f_ge, f_eqi, f_eqs, f_int, f_neg, upd_heap, upd_next, all_heap, all_next, Bool.false_eq_true, if_true, if_false, decide_eq_true_eq, Nat.sub_self]
  exact hQ _ _ _ _ _ _ ((ag.trans af7).trans af8)
theorem isname_eq {k : Nat} (hk : 1 < k) (w : s.Wf) {z : Str} (hz : z.length ≤ 1000000) : meanB ds G k 6 [.str z] s = .ok (.bl (isNameS z)) s := by
  have := isname_ok hk w hz (Q := fun d t => d = .bl (isNameS z) ∧ t = s) (E := fun _ _ _ => False) ⟨rfl, rfl⟩
  obtain ⟨d, s', h1, h2, h3⟩ := wp_get this
  rw [h1, h2, h3]
end
theorem fm_none (l : List D) : (l.filterMap fun _ => (none : Option D)) = [] := by simp
def tailC : C := (.seq
 (.set 3 (.lst false (.cons (.tup (.cons (.str "a") (.cons (.bl true) .nil))) (.cons (.tup (.cons (.str "a1b2c3") (.cons (.bl true) .nil))) (.cons (.tup (.cons (.str "abcdefg") (.cons (.bl false) .nil))) (.cons (.tup (.cons (.str "") (.cons (.bl false) .nil))) (.cons (.tup (.cons (.str "1a") (.cons (.bl false) .nil))) .nil)))))))
 (.seq
 (.set 3 (.bin .add false (.var 3) (.lst false (.cons (.tup (.cons (.str "else") (.cons (.bl false) .nil))) (.cons (.tup (.cons (.str "elses") (.cons (.bl true) .nil))) (.cons (.tup (.cons (.str "A") (.cons (.bl false) .nil))) (.cons (.tup (.cons (.str "a-b") (.cons (.bl false) .nil))) (.cons (.tup (.cons (.str "print") (.cons (.bl true) .nil))) (.cons (.tup (.cons (.str "block") (.cons (.bl true) .nil))) (.cons (.tup (.cons (.str "a b") (.cons (.bl false) .nil))) .nil))))))))))
 (.seq
 (.ret (.cmp .eq (.blt .len false (.cons (.lc false (.tup [9, 5]) [9, 5] (.it (.var 3)) (.tcmp .ne (.call 6 (.cons (.var 9) .nil)) (.var 5)) (.var 9)) .nil)) (.int 0)))
 .skip)))
theorem tail_ok {t : S} (w : t.Wf) {x0 x1 x2 x3 x4 x5 x6 x7 x8 x9 : Option D} {Q : QS} (hQ : ∀ env, Q (.rt (.bl true)) env t) : wps ((ev (meanB ds G 2) G tailC).s [x0, x1, x2, x3, x4, x5, x6, x7, x8, x9] t) Q := by
  have mt : ∀ (x y : D) (t : S), mkT [x, y] t = .ok (.tup [x, y]) t := fun x y t => mkT_ok (by show 2 ≤ 1000; decide)
  simp only [tailC, mt, ev, wps_seq, wps_if, wps_ret, wps_nx, wps_fl, wps_expr, wps_set, wps_setT, wps_setI, wps_setF, wps_lks, wp_bool, wp_tru, wp_notM, wp_andM, wp_orM, wp_ifM, wp_op2, wp_op1, wp_arg, wp_cons, wp_nil, wp_lit, wp_mth, wp_meth, wp_mk, wp_pop, wp_get2, wp_lck, wp_v, wp_ok, wps_ok, List.map_cons, List.map_nil, List.length_cons, List.length_nil, Nat.zero_add, Nat.reduceAdd, Nat.reduceSub, List.replicate_zero, List.replicate_succ, List.cons_append, List.nil_append, List.append_nil, List.getElem?_cons_zero, List.getElem?_cons_succ, List.set_cons_zero, List.set_cons_succ, blF, mtF, opF, cmF, f_add, f_sub, f_mul, f_mod, f_fdiv, f_pow, f_lt, f_le, f_gt, f_ge, f_eqi, f_eqs, f_int, f_neg, upd_heap, upd_next, all_heap, all_next, Bool.false_eq_true, if_true, if_false, decide_eq_true_eq, Nat.sub_self]
  rw [mkL_lv (by show 5 ≤ 1000; decide)]
  simp only [mt, ev, wps_seq, wps_if, wps_ret, wps_nx, wps_fl, wps_expr, wps_set, wps_setT, wps_setI, wps_setF, wps_lks, wp_bool, wp_tru, wp_notM, wp_andM, wp_orM, wp_ifM, wp_op2, wp_op1, wp_arg, wp_cons, wp_nil, wp_lit, wp_mth, wp_meth, wp_mk, wp_pop, wp_get2, wp_lck, wp_v, wp_ok, wps_ok, List.map_cons, List.map_nil, List.length_cons, List.length_nil, Nat.zero_add, Nat.reduceAdd, Nat.reduceSub, List.replicate_zero, List.replicate_succ, List.cons_append, List.nil_append, List.append_nil, List.getElem?_cons_zero, List.getElem?_cons_succ, List.set_cons_zero, List.set_cons_succ, blF, mtF, opF, cmF, f_add, f_sub, f_mul, f_mod, f_fdiv, f_pow, f_lt, f_le, f_gt, f_ge, f_eqi, f_eqs, f_int, f_neg, upd_heap, upd_next, all_heap, all_next, Bool.false_eq_true, if_true, if_false, decide_eq_true_eq, Nat.sub_self]
  rw [mkL_lv (by show 7 ≤ 1000; decide)]
  simp only [ev, wps_seq, wps_if, wps_ret, wps_nx, wps_fl, wps_expr, wps_set, wps_setT, wps_setI, wps_setF, wps_lks, wp_bool, wp_tru, wp_notM, wp_andM, wp_orM, wp_ifM, wp_op2, wp_op1, wp_arg, wp_cons, wp_nil, wp_lit, wp_mth, wp_meth, wp_mk, wp_pop, wp_get2, wp_lck, wp_v, wp_ok, wps_ok, List.map_cons, List.map_nil, List.length_cons, List.length_nil, Nat.zero_add, Nat.reduceAdd, Nat.reduceSub, List.replicate_zero, List.replicate_succ, List.cons_append, List.nil_append, List.append_nil, List.getElem?_cons_zero, List.getElem?_cons_succ, List.set_cons_zero, List.set_cons_succ, blF, mtF, opF, cmF, f_add, f_sub, f_mul, f_mod, f_fdiv, f_pow, f_lt, f_le, f_gt, f_ge, f_eqi, f_eqs, f_int, f_neg, upd_heap, upd_next, all_heap, all_next, Bool.false_eq_true, if_true, if_false, decide_eq_true_eq, Nat.sub_self]
  rw [add_lv (by show 5 + 7 ≤ 1000; decide)]
  simp only [ev, wps_seq, wps_if, wps_ret, wps_nx, wps_fl, wps_expr, wps_set, wps_setT, wps_setI, wps_setF, wps_lks, wp_bool, wp_tru, wp_notM, wp_andM, wp_orM, wp_ifM, wp_op2, wp_op1, wp_arg, wp_cons, wp_nil, wp_lit, wp_mth, wp_meth, wp_mk, wp_pop, wp_get2, wp_lck, wp_v, wp_ok, wps_ok, List.map_cons, List.map_nil, List.length_cons, List.length_nil, Nat.zero_add, Nat.reduceAdd, Nat.reduceSub, List.replicate_zero, List.replicate_succ, List.cons_append, List.nil_append, List.append_nil, List.getElem?_cons_zero, List.getElem?_cons_succ, List.set_cons_zero, List.set_cons_succ, blF, mtF, opF, cmF, f_add, f_sub, f_mul, f_mod, f_fdiv, f_pow, f_lt, f_le, f_gt, f_ge, f_eqi, f_eqs, f_int, f_neg, upd_heap, upd_next, all_heap, all_next, Bool.false_eq_true, if_true, if_false, decide_eq_true_eq, Nat.sub_self]
  have hi : ∀ (env : Co.Env) (xs : List D), env[3]? = some (some (D.lv xs)) → anyItM (varM 3) env t = .ok (xs, none) t := fun env xs h => by
    unfold anyItM varM
    rw [h]
    rfl
  have one : ∀ (z : Str) (b : Bool) (env : Co.Env), env.length = 10 → isNameS z = b → z.length ≤ 1000000 → ∃ env1, asg (.tup [9, 5]) (.tup [.str z, .bl b]) t env = some env1 ∧ boolM (op2M (eqF true) (argM (meanB ds G 2 6) (consM (varM 9) nilM)) (varM 5)) env1 t = .ok false t := fun z b env hl e1 e2 => by
    have eb : ∀ b : Bool, eqF true (.bl b) (.bl b) t = .ok (.bl false) t := fun b => by cases b <;> rfl
    refine ⟨(env.set 9 (some (.str z))).set 5 (some (.bl b)), rfl, ?_⟩
    have a9 : ((env.set 9 (some (D.str z))).set 5 (some (.bl b)))[9]? = some (some (.str z)) := by rw [List.getElem?_set_ne (by decide), List.getElem?_set_self (by omega)]
    have a5 : ((env.set 9 (some (D.str z))).set 5 (some (.bl b)))[5]? = some (some (.bl b)) := by rw [List.getElem?_set_self (by rw [List.length_set]; omega)]
    simp only [boolM, op2M, argM, consM, nilM, varM, a9, a5, bd_ok, isname_eq (show 1 < 2 by decide) w e2, e1, eb]
  refine wp_lc (hi _ _ rfl) (fun _ => none) trivial (by
    refine List.forall_mem_cons.mpr ⟨one _ _ _ rfl (by decide +kernel) (by decide +kernel), ?_⟩
    refine List.forall_mem_cons.mpr ⟨one _ _ _ rfl (by decide +kernel) (by decide +kernel), ?_⟩
    refine List.forall_mem_cons.mpr ⟨one _ _ _ rfl (by decide +kernel) (by decide +kernel), ?_⟩
    refine List.forall_mem_cons.mpr ⟨one _ _ _ rfl (by decide +kernel) (by decide +kernel), ?_⟩
    refine List.forall_mem_cons.mpr ⟨one _ _ _ rfl (by decide +kernel) (by decide +kernel), ?_⟩
    refine List.forall_mem_cons.mpr ⟨one _ _ _ rfl (by decide +kernel) (by decide +kernel), ?_⟩
    refine List.forall_mem_cons.mpr ⟨one _ _ _ rfl (by decide +kernel) (by decide +kernel), ?_⟩
    refine List.forall_mem_cons.mpr ⟨one _ _ _ rfl (by decide +kernel) (by decide +kernel), ?_⟩
    refine List.forall_mem_cons.mpr ⟨one _ _ _ rfl (by decide +kernel) (by decide +kernel), ?_⟩
    refine List.forall_mem_cons.mpr ⟨one _ _ _ rfl (by decide +kernel) (by decide +kernel), ?_⟩
    refine List.forall_mem_cons.mpr ⟨one _ _ _ rfl (by decide +kernel) (by decide +kernel), ?_⟩
    refine List.forall_mem_cons.mpr ⟨one _ _ _ rfl (by decide +kernel) (by decide +kernel), ?_⟩
    exact fun d h => nomatch h) (by rw [line_is]; simp only [List.cons_append, List.nil_append, List.length_cons, List.length_nil]; decide) ?_
  rw [fm_none, mkL_lv (by decide)]
  simp only [ev, wps_seq, wps_if, wps_ret, wps_nx, wps_fl, wps_expr, wps_set, wps_setT, wps_setI, wps_setF, wps_lks, wp_bool, wp_tru, wp_notM, wp_andM, wp_orM, wp_ifM, wp_op2, wp_op1, wp_arg, wp_cons, wp_nil, wp_lit, wp_mth, wp_meth, wp_mk, wp_pop, wp_get2, wp_lck, wp_v, wp_ok, wps_ok, List.map_cons, List.map_nil, List.length_cons, List.length_nil, Nat.zero_add, Nat.reduceAdd, Nat.reduceSub, List.replicate_zero, List.replicate_succ, List.cons_append, List.nil_append, List.append_nil, List.getElem?_cons_zero, List.getElem?_cons_succ, List.set_cons_zero, List.set_cons_succ, blF, mtF, opF, cmF, f_add, f_sub, f_mul, f_mod, f_fdiv, f_pow, f_lt, f_le, f_gt, f_ge, f_eqi, f_eqs, f_int, f_neg, upd_heap, upd_next, all_heap, all_next, Bool.false_eq_true, if_true, if_false, decide_eq_true_eq, Nat.sub_self]
  have l0 : lenF [.lv []] t = .ok (.int 0) t := rfl
  simp only [l0, decide_true, ev, wps_seq, wps_if, wps_ret, wps_nx, wps_fl, wps_expr, wps_set, wps_setT, wps_setI, wps_setF, wps_lks, wp_bool, wp_tru, wp_notM, wp_andM, wp_orM, wp_ifM, wp_op2, wp_op1, wp_arg, wp_cons, wp_nil, wp_lit, wp_mth, wp_meth, wp_mk, wp_pop, wp_get2, wp_lck, wp_v, wp_ok, wps_ok, List.map_cons, List.map_nil, List.length_cons, List.length_nil, Nat.zero_add, Nat.reduceAdd, Nat.reduceSub, List.replicate_zero, List.replicate_succ, List.cons_append, List.nil_append, List.append_nil, List.getElem?_cons_zero, List.getElem?_cons_succ, List.set_cons_zero, List.set_cons_succ, blF, mtF, opF, cmF, f_add, f_sub, f_mul, f_mod, f_fdiv, f_pow, f_lt, f_le, f_gt, f_ge, f_eqi, f_eqs, f_int, f_neg, upd_heap, upd_next, all_heap, all_next, Bool.false_eq_true, if_true, if_false, decide_eq_true_eq, Nat.sub_self]
  exact hQ _
theorem b_law_eq : b_law = .seq (.set 1 (.lst true (.cons (.call 7 (.cons (.var 0) (.cons (.int 0) (.cons (.int 20) .nil)))) (.cons (.int 0) .nil)))) (.seq (.fors (.name 2) (.rng1 (.int 8)) b_law_l1) tailC) := rfl
theorem law_true (ns : List Int) (hn : ns.length ≤ 63) : ∃ s', mean ds G 10 [.sc (ns.map .int)] S0 = .ok (.bl true) s' := by
  generalize h1 : (ev (meanB ds G 2) G b_law_l1).s = l1
  generalize h2 : (ev (meanB ds G 2) G tailC).s = l2
  have key : wp (mean ds G 10 [.sc (ns.map .int)] S0) (fun d _ => d = .bl true) (fun _ _ _ => False) := by
    rw [mean_eq (d := d_law) rfl]
    refine wp_callB rfl ?_
    rw [show d_law.body = _ from b_law_eq]
    simp only [d_law, ev, wps_seq, wps_if, wps_ret, wps_nx, wps_fl, wps_expr, wps_set, wps_setT, wps_setI, wps_setF, wps_lks, wp_bool, wp_tru, wp_notM, wp_andM, wp_orM, wp_ifM, wp_op2, wp_op1, wp_arg, wp_cons, wp_nil, wp_lit, wp_mth, wp_meth, wp_mk, wp_pop, wp_get2, wp_lck, wp_v, wp_ok, wps_ok, List.map_cons, List.map_nil, List.length_cons, List.length_nil, Nat.zero_add, Nat.reduceAdd, Nat.reduceSub, List.replicate_zero, List.replicate_succ, List.cons_append, List.nil_append, List.append_nil, List.getElem?_cons_zero, List.getElem?_cons_succ, List.set_cons_zero, List.set_cons_succ, blF, mtF, opF, cmF, f_add, f_sub, f_mul, f_mod, f_fdiv, f_pow, f_lt, f_le, f_gt, f_ge, f_eqi, f_eqs, f_int, f_neg, upd_heap, upd_next, all_heap, all_next, Bool.false_eq_true, if_true, if_false, decide_eq_true_eq, Nat.sub_self, h1, h2]
    rw [meanB_eq (by show 1 < 2; decide)]
    refine digits_ok ns 20 (by decide) S0 wf0 fun ms => ?_
    rw [mkL_ref (by show 2 ≤ 1000; decide)]
    simp only [ev, wps_seq, wps_if, wps_ret, wps_nx, wps_fl, wps_expr, wps_set, wps_setT, wps_setI, wps_setF, wps_lks, wp_bool, wp_tru, wp_notM, wp_andM, wp_orM, wp_ifM, wp_op2, wp_op1, wp_arg, wp_cons, wp_nil, wp_lit, wp_mth, wp_meth, wp_mk, wp_pop, wp_get2, wp_lck, wp_v, wp_ok, wps_ok, List.map_cons, List.map_nil, List.length_cons, List.length_nil, Nat.zero_add, Nat.reduceAdd, Nat.reduceSub, List.replicate_zero, List.replicate_succ, List.cons_append, List.nil_append, List.append_nil, List.getElem?_cons_zero, List.getElem?_cons_succ, List.set_cons_zero, List.set_cons_succ, blF, mtF, opF, cmF, f_add, f_sub, f_mul, f_mod, f_fdiv, f_pow, f_lt, f_le, f_gt, f_ge, f_eqi, f_eqs, f_int, f_neg, upd_heap, upd_next, all_heap, all_next, Bool.false_eq_true, if_true, if_false, decide_eq_true_eq, Nat.sub_self]
    have w1 : (S0.alloc (.lst [.lv (ms.map .int), .int 0])).Wf := wf0.alloc (by
      refine ⟨?_, trivial, trivial⟩
      exact below_ints _ ms)
    have b1 : Box (S0.alloc (.lst [.lv (ms.map .int), .int 0])) S0.next := ⟨ms, 0, by rw [all_heap, if_pos rfl], Int.le_refl 0⟩
    have l1' : S0.next < (S0.alloc (.lst [.lv (ms.map .int), .int 0])).next := by rw [all_next]; omega
    generalize S0.alloc (.lst [.lv (ms.map .int), .int 0]) = s1 at w1 b1 l1' ⊢
    refine wps_for (fun i env t => ∃ x2 x4 x5 x6 x7 x8, env = [some (.sc (ns.map .int)), some (.ref S0.next), x2, none, x4, x5, x6, x7, x8, none] ∧ t.Wf ∧ Box t S0.next ∧ S0.next < t.next) (rng1_lit (k := 8) (by decide)) ⟨_, _, _, _, _, _, rfl, w1, b1, l1'⟩ (fun _ _ _ _ _ => trivial) (fun i d env t hd hi => ?_) fun env t hi => ?_
    · obtain ⟨x2, x4, x5, x6, x7, x8, rfl, w, b, l⟩ := hi
      refine ⟨_, rfl, ?_⟩
      subst h1
      refine turn_ok w b l fun t' x4 x5 x6 x7 x8 af => ?_
      exact ⟨_, _, _, _, _, _, rfl, af.wf, af.box, by have := af.next; omega⟩
    · obtain ⟨x2, x4, x5, x6, x7, x8, rfl, w, b, l⟩ := hi
      subst h2
      refine tail_ok w fun env => ?_
      trivial
  obtain ⟨d, s', h1, h2⟩ := wp_get key
  exact ⟨s', by rw [h1, h2]⟩
end K00
open PySem PySem.W PySem.Calls PyProof.Rows
theorem PySem.Challenge.cw_stopsheld_k00_words_exact_holds : PySem.Challenge.rw_stopsheld_k00_words_exact.Holds := by
  w_on; o_law
  refine HandSHeadRun.head_any (r := OpenLaw.row PySem.Challenge.rw_stopsheld_k00_words_exact) (q := view (OpenLaw.row PySem.Challenge.rw_stopsheld_k00_words_exact).prog [32]) (H := K00.hk) (ob := K00.ob) (M := 1500) (loose := K00.loose) (d := HandSHeadRun.topDef (OpenLaw.row PySem.Challenge.rw_stopsheld_k00_words_exact).prog 32) (kwd := []) K00.ob_eq
    (by kernel_rfl) (fun s => by kernel_rfl) K00.run (by kernel_rfl) (by kernel_rfl) (by kernel_rfl) (by rfl) (by first | assumption | decide +kernel) (by decide +kernel) ⟨rfl, rfl, rfl, rfl, rfl, by decide +kernel⟩ ?hw ?hc
  case hw => w_witness2
  case hc =>
    exact Co.walkG (l := PySem.Challenge.rw_stopsheld_k00_words_exact) (n := 63) (ds := K00.ds) (G := K00.G) (gls := K00.gls) (frees := K00.frees) (nats := K00.nats) (xc := K00.xc) (Hk := K00.hk) (Sy := Co.SaysX K00.fa K00.fn (Co.allB K00.file K00.xc K00.tups)) (j := 10) (d := K00.d_law) (fun _ _ ⟨K, h1, h2, h3⟩ => ⟨K, h1, h2, h3.of⟩) rfl (by decide) (by kernel_rfl) rfl ⟨rfl, by decide +kernel, by decide +kernel⟩ (by kernel_rfl) rfl rfl
      K00.checked (fun K mg h X N c => ⟨K00.nfacts X N c.2 c.1, K00.kinds X N c.1, K00.funs c.1⟩) K00.law_true
