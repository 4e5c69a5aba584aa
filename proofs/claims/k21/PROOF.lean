import PyProof.Rows.All
import Wide.All
import OpenK.AllK
import Wide.FinOn
import PyProof.EqAt
import PyProof.EqKinds
import PyProof.TupleCall
import KE.KNest
import HandS.ForMost
import HandS.AnyAll
import HandS.GenOver
import HandS.GenList
import HandS.Deep
import HandS.Lambda
import HandS.Dict
import HandS.Iter
import KE.KDictKeyed
import KE.KDictDisplayH
import HandS.ForExc
import KE.DataEq
import KE.DataCmp
import KE.DataMinMax
import KE.DatumMoreOrd
import KE.SortData
import HandS.TupAny
import HandS.Style
import HandS.ExcOwn
import HandS.WordsExc
import HandS.Rev
import HandS.RevTup
import PyProof.ListNew
import PyProof.StrOps2
import HandS.TryMany
import HandS.EndOwn
import HandS.EndTab
import KE.KNestM
import HandS.SetFor
import KE.SortKeyed
import HandS.Conv
import HandS.Set
import HandS.SetKeys
import HandS.SetBool
import HandS.TupSets
import HandS.IsInst
import HandS.DictComp
import KE.KExcSuper
import HandS.ExcInit
import HandS.ExcField
import HandS.Nested
import HandS.TryOnly
import HandS.ExcIs
import HandS.ExcBuiltin
import KE.KDictPairs
import HandS.ListItems
import HandS.DictTup
import PyProof.TupleOfSeq
import HandS.TupLen
import KE.KDictSum
import PyProof.MeetsSeq2
import HandS.CallSlots
import KE.GoesEnum
import HandS.Text
import KE.IntTextLaws
import PySem.Challenge.RW_museum_k21_refusals_apart
set_option Elab.async false
set_option linter.all false
set_option maxRecDepth 100000
set_option maxHeartbeats 2000000
namespace GxI
open PySem PySem.Spec PyProof.Rows L2
/-- the context of a generator expression's frame -/
abbrev gcx (X : Cx) (A : Around) (s : Shared) (H : Hp) (cenv : Env) (fp : List Addr) : Cx :=
  { X with A := A, s_0 := s, H_0 := H, env := cenv, outer := X.stack, stack := cenv :: X.stack, ex := fp, fn := fun _ => false, pn := [], xe := fun _ _ => False }
/-- the generator expression's own names -/
structure GxS (env : Env) (scope : Scope) : Prop where
  co : scope.isCoroutine = false
  nocell : ∀ y ∈ scope.names, y.2 ≠ .cell
  dot : scope.names.lookup (".0" : Str) = some NameKind.local
section
variable {X : Cx} {pins : List (Addr × Obj)} {σ : L2.St} {H : Hp} {s : Shared}
theorem clo_mem (I : Inv X pins σ H s) {scope : Scope} {own : List (Str × Nat)} (ok : BlkOk X.N X.env.scope scope own) {y : Str} {c : Addr} (hm : (cloFrom X.env.cells scope.names []).lookup y = some c) :
    X.env.cells.lookup y = some c ∧ c < s.heap.objs.size ∧ scope.names.lookup y = some .free := by
  rcases cloFrom_mem (PySem.mem_of_lookup hm) with hm | ⟨h1, rfl⟩
  · cases hm
  · have hc : ∃ c, X.env.cells.lookup y = some c := by
      rcases ok.free _ h1 rfl with k | k
      · exact I.ok.has _ (.inl k)
      · exact I.ok.has _ (.inr k)
    obtain ⟨c, hc⟩ := hc
    rw [hc]
    obtain ⟨w, z⟩ := I.cell _ _ hc
    exact ⟨rfl, z.lt, ok.uniq _ h1⟩
theorem gen_start {A : Around} {scope : Scope} {own : List (Str × Nat)} {fp : List Addr} {code : Value} {g' : Array GenState} {h' : Heap} {tk : Nat} {m : Str → Option Value}
    (I : Inv X pins σ H s) (ok : BlkOk X.N X.env.scope scope own) (gs : GxS X.env scope) (hN : X.N.Nodup) (hfp : ∀ b ∈ fp, FpOk X pins H b ∧ b < s.heap.objs.size)
    (hA : A.handled = none) (hAf : A.frames = some (genEnv scope (cloFrom X.env.cells scope.names []) s.heap.objs.size code builtinsNs X.env :: X.stack))
    (hns : h'.Ns s.heap.objs.size m) (kp : ∀ b o, s.heap.get? b = some o → h'.get? b = some o) (hg : AllBare g') :
    Inv (gcx X A s H (genEnv scope (cloFrom X.env.cells scope.names []) s.heap.objs.size code builtinsNs X.env) fp) [] (wipe σ (own.map (·.2))) H { s with heap := h', gens := g', toks := tk } := by
  generalize hce : genEnv scope (cloFrom X.env.cells scope.names []) s.heap.objs.size code builtinsNs X.env = ce at hAf ⊢
  have cL : ce.locals = s.heap.objs.size := by subst hce; rfl
  have cC : ce.cells = cloFrom X.env.cells scope.names [] := by subst hce; rfl
  have cS : ce.scope = scope := by subst hce; rfl
  have mem : ∀ {y c}, ce.cells.lookup y = some c → X.env.cells.lookup y = some c ∧ c < s.heap.objs.size ∧ scope.names.lookup y = some .free := fun {y c} e => by
    rw [cC] at e
    exact clo_mem I ok e
  have look : ∀ {y}, scope.names.lookup y = some .free → ∃ c, ce.cells.lookup y = some c ∧ X.env.cells.lookup y = some c := fun {y} hl => by
    obtain ⟨c', e'⟩ := mem_lookup (cloFrom_has (cells := X.env.cells) (acc := []) (PySem.mem_of_lookup hl))
    rw [← cC] at e'
    exact ⟨c', e', (mem e').1⟩
  have okB : (gcx X A s H ce fp).Ok := by
    refine ⟨I.ok.mod, by show ce.scope.kind = _; rw [cS]; exact ok.kind, by show ce.globals = _; rw [← hce]; exact I.ok.glob, by show ce.builtins = _; rw [← hce]; rfl, by show s.heap.objs.size ≤ ce.locals; rw [cL]; exact Nat.le_refl _,
      fun y z c e1 e2 => I.ok.inj y z c (mem e1).1 (mem e2).1, fun y hy => ?_, fun y c z e => ?_, fun _ => hA, hAf, .inr ⟨rfl, by show ce.frame = some ce.locals; rw [← hce]; rfl⟩, fun b hb => ⟨?_, fun y c e z => ?_⟩, I.bs, Nat.le_trans I.ok.bsz I.sz, fun b o e hb => ?_, fun b hb z => ?_, I.stack, I.stkFree⟩
    · show ∃ c, ce.cells.lookup y = some c
      have hy : ce.scope.names.lookup y = some .cell ∨ ce.scope.names.lookup y = some .free := hy
      rw [cS] at hy
      rcases hy with hy | hy
      · exact absurd rfl (gs.nocell _ (PySem.mem_of_lookup hy))
      · obtain ⟨c, h1, _⟩ := look hy
        exact ⟨c, h1⟩
    · cases z
    · show b ≠ ce.locals
      rw [cL]; exact Nat.ne_of_lt (hfp b hb).2
    · have e : ce.cells.lookup y = some c := e
      exact (hfp b hb).1.2.2.2.2.1 y c (mem e).1 z
    · rcases (hfp b hb).1.2.2.2.1 with z | z
      · exact I.ok.noex b o e z
      · exact absurd (Nat.lt_of_lt_of_le (Heap.lt_size e) (Nat.le_trans I.ok.bsz z)) (Nat.lt_irrefl _)
    · rcases List.mem_cons.mp (I.stkSub b z) with z | z
      · exact (hfp b hb).1.2.1 z
      · exact (hfp b hb).1.2.2.1 z
  refine ⟨okB, rfl, hg, Un.kept kp, ⟨m, ?_, fun i y av e1 e2 e3 => ?_⟩, fun y c e => ?_, ?_, fun y c e => ?_, fun p hp => absurd (show p ∈ ([] : List (Addr × Obj)) ++ [] from hp) (by simp), I.hok.kept kp, by rw [wipe_length]; exact I.len⟩
  · show Heap.Ns _ ce.locals _
    rw [cL]
    exact hns
  · obtain ⟨e2, hne⟩ := wipe_some e2
    have e3 : Vis ce.scope y := e3
    rw [cS] at e3
    have no : ¬ (scope.names.lookup y = some .local ∨ scope.names.lookup y = some .cell) := fun hh => by
      have hm : y ∈ own.map (·.1) ∨ y ∉ X.N := by
        rcases hh with hh | hh
        · exact ok.own _ (PySem.mem_of_lookup hh) (.inl rfl)
        · exact ok.own _ (PySem.mem_of_lookup hh) (.inr rfl)
      rcases hm with e' | e'
      · obtain ⟨p, hp, hpy⟩ := List.mem_map.mp e'
        have e3 := ok.ix p hp
        have : p.1 = y := hpy
        rw [this] at e3
        exact hne (List.mem_map.mpr ⟨p, hp, nodup_ix hN e3 e1⟩)
      · exact e' (List.mem_of_getElem? e1)
    have hfr : scope.names.lookup y = some .free := by
      rcases e3 with e3 | e3 | e3
      · exact absurd (.inl e3) no
      · exact absurd (.inr e3) no
      · exact e3
    obtain ⟨m, hn, hl⟩ := I.loc
    have hvis : Vis X.env.scope y := (ok.free _ (PySem.mem_of_lookup hfr) rfl).elim (fun k => .inr (.inl k)) (fun k => .inr (.inr k))
    obtain ⟨w, r, q⟩ := hl i y av e1 e2 hvis
    refine ⟨w, r, .inr ⟨.inr (by show ce.scope.names.lookup y = _; rw [cS]; exact hfr), ?_⟩⟩
    obtain ⟨c, h1, h2⟩ := look hfr
    rcases q with ⟨k, _⟩ | ⟨_, c', e', z⟩
    · have k : X.env.scope.names.lookup y = some .local := k
      rcases ok.free _ (PySem.mem_of_lookup hfr) rfl with k' | k' <;> rw [show X.env.scope.names.lookup y = _ from k'] at k <;> cases k
    · rw [h2] at e'; cases e'
      exact ⟨c, h1, z.keeps kp⟩
  · have e : ce.cells.lookup y = some c := e
    obtain ⟨w, z⟩ := I.cell y c (mem e).1
    exact ⟨w, z.keeps kp⟩
  · show H ce.locals = none
    rw [cL]; exact I.hok.fresh (Nat.le_refl _)
  · have e : ce.cells.lookup y = some c := e
    exact I.freeC y c (mem e).1
end
/-- what the consumer may do while the generator sleeps; S: its own objects -/
structure Kp (S : List Addr) (s s' : Shared) : Prop where
  os : s'.os = s.os
  bare : AllBare s'.gens
  gsz : s.gens.size ≤ s'.gens.size
  keep : ∀ b o, b ∉ S → s.heap.get? b = some o → s'.heap.get? b = some o
  own : ∀ b ∈ S, ∀ o, s.heap.get? b = some o → ∃ o', s'.heap.get? b = some o' ∧ ∀ v, o'.data ≠ .cell v
theorem Kp.refl {S : List Addr} {s : Shared} (h : AllBare s.gens) (hS : ∀ b ∈ S, ∀ o, s.heap.get? b = some o → ∀ v, o.data ≠ .cell v) : Kp S s s := ⟨rfl, h, Nat.le_refl _, fun _ _ _ e => e, fun b hb o e => ⟨o, e, hS b hb o e⟩⟩
structure SApart (Xg : Cx) (S : List Addr) (a : Addr) (fp : List Addr) : Prop where
  size : ∀ b ∈ S, Xg.s_0.heap.objs.size ≤ b
  loc : ∀ b ∈ S, b ≠ Xg.env.locals
  cell : ∀ b ∈ S, ∀ x c, Xg.env.cells.lookup x = some c → c ≠ b
  gen : ∀ b ∈ S, b ≠ a
  fp : ∀ b ∈ S, b ∉ fp
def GSt (Xg : Cx) (S : List Addr) (a : Addr) (go : Obj) (fp : List Addr) (tn : Nat → Heap → Prop) (Gd : Nat → Hp → Prop) (σ : L2.St) (i : Nat) (s : Shared) : Prop :=
  ∃ H pl, pl.map (·.1) = S ∧ Inv Xg ((a, go) :: pl) σ H s ∧ tn i s.heap ∧ (∀ b ∈ fp, H b = none) ∧ Gd i H
def GEd (Xg : Cx) (S : List Addr) (a : Addr) (go : Obj) (Gd : Nat → Hp → Prop) (σ : L2.St) (n : Nat) (s : Shared) : Prop :=
  ∃ H pl, pl.map (·.1) = S ∧ Inv Xg ((a, go) :: pl) σ H s ∧ Gd n H
theorem inv_kp {Xg : Cx} {S : List Addr} {a : Addr} {go : Obj} {fp : List Addr} {pl : List (Addr × Obj)} {σ : L2.St} {H : Hp} {s s' : Shared} (hpn : Xg.pn = []) (ap : SApart Xg S a fp)
    (hpl : pl.map (·.1) = S) (I : Inv Xg ((a, go) :: pl) σ H s) (k : Kp S s s') : ∃ pl', pl'.map (·.1) = S ∧ Inv Xg ((a, go) :: pl') σ H s' := by
  have pin : ∀ p ∈ (a, go) :: pl, s.heap.get? p.1 = some p.2 ∧ H p.1 = none ∧ p.1 ≠ Xg.env.locals ∧ p.1 ∉ Xg.fs ∧ ∀ v, p.2.data ≠ .cell v := fun p hp => I.pin p (List.mem_append_right _ hp)
  have I0 : Inv Xg [(a, go)] σ H s := I.pins_of fun p hp => pin p (by rw [List.mem_singleton.mp hp]; exact List.mem_cons_self)
  have hS : ∀ b ∈ S, ∃ o, (b, o) ∈ pl := fun b hb => by
    rw [← hpl] at hb
    obtain ⟨p, hp, e⟩ := List.mem_map.mp hb
    exact ⟨p.2, by rw [← e]; exact hp⟩
  have nS : ∀ b ∈ S, H b = none := fun b hb => by
    obtain ⟨o, ho⟩ := hS b hb
    exact (pin _ (List.mem_cons_of_mem _ ho)).2.1
  have nt : ∀ b u, H b = some u → b ∉ S := fun b u q hb => by
    rw [nS b hb] at q
    cases q
  obtain ⟨z1, z2, _, z3, z4⟩ := k
  obtain ⟨hh, g, d, t, o⟩ := s'
  have ho : o = s.os := z1
  subst ho
  have J : Inv Xg [(a, go)] σ H { s with heap := hh, gens := g, drawn := d, toks := t } := by
    refine I0.step (g' := g) (t' := t) (d' := d) (ch := S) (fun b hb => ?_)
      (fun b ob _ _ hc q _ => z3 b ob hc q) (fun b ob _ _ hc q _ => ⟨ob.slots, z3 b ob hc q⟩) (fun _ _ _ _ n => n) (fun b ob hc q => ⟨ob, z3 b ob hc q⟩)
      (fun _ _ q => q) (fun _ _ _ q => q) (fun b ps q => ⟨#[], by rw [q]; simp⟩) (fun m hm => ?_) (fun b u q => ?_) z2
    · refine ⟨.inr (ap.size b hb), ap.loc b hb, fun x c e => ap.cell b hb x c e, fun p hp => ?_⟩
      rw [hpn] at hp
      have hp : p ∈ [(a, go)] := hp
      rw [List.mem_singleton.mp hp]
      exact fun e => ap.gen b hb e.symm
    · obtain ⟨ob, es, ep, ho, r⟩ := hm
      exact ⟨ob, es, ep, z3 _ ob (fun hb => ap.loc _ hb rfl) ho, r⟩
    · refine (I0.hok b u q).stay (fun c v hc y => z3 c v ?_ y) (fun _ y => y) fun _ _ y => y
      rcases hc with y | y
      · rw [y]; exact nt b u q
      · exact nt c _ y
  have ex : ∀ pl : List (Addr × Obj), (∀ p ∈ pl, p.1 ∈ S ∧ s.heap.get? p.1 = some p.2) → ∃ pl' : List (Addr × Obj), pl'.map (·.1) = pl.map (·.1) ∧ ∀ p ∈ pl', p.1 ∈ S ∧ hh.get? p.1 = some p.2 ∧ ∀ v, p.2.data ≠ .cell v := fun pl => by
    induction pl with
    | nil => exact fun _ => ⟨[], rfl, fun p hp => by cases hp⟩
    | cons p r ih =>
      intro h
      obtain ⟨r', e1, e2⟩ := ih fun q hq => h q (List.mem_cons_of_mem _ hq)
      obtain ⟨hp1, hp2⟩ := h p List.mem_cons_self
      obtain ⟨o', h1, h2⟩ := z4 p.1 hp1 p.2 hp2
      refine ⟨(p.1, o') :: r', by rw [List.map_cons, List.map_cons, e1], fun q hq => ?_⟩
      rcases List.mem_cons.mp hq with e | hq
      · rw [e]
        exact ⟨hp1, h1, h2⟩
      · exact e2 q hq
  obtain ⟨pl', e1, e2⟩ := ex pl fun p hp => ⟨by rw [← hpl]; exact List.mem_map.mpr ⟨p, hp, rfl⟩, (pin p (List.mem_cons_of_mem _ hp)).1⟩
  refine ⟨pl', e1.trans hpl, J.pins_of fun p hp => ?_⟩
  rcases List.mem_cons.mp hp with e | hp
  · rw [e]
    exact J.pin (a, go) (List.mem_append_right _ List.mem_cons_self)
  · obtain ⟨h1, h2, h3⟩ := e2 p hp
    obtain ⟨o, ho⟩ := hS _ h1
    obtain ⟨_, _, _, y, _⟩ := pin _ (List.mem_cons_of_mem _ ho)
    exact ⟨h2, nS _ h1, ap.loc _ h1, y, h3⟩
theorem GSt.kp {Xg : Cx} {S : List Addr} {a : Addr} {go : Obj} {fp : List Addr} {tn : Nat → Heap → Prop} {Gd : Nat → Hp → Prop} {σ : L2.St} {i : Nat} {s s' : Shared} {P : Program} {w : World} {K : PySem.W.Frag} {tg : Expr} {J : It} {it : Addr}
    (T : Turn P w K tg J fp it tn) (hpn : Xg.pn = []) (ap : SApart Xg S a fp) (h : GSt Xg S a go fp tn Gd σ i s) (k : Kp S s s') : GSt Xg S a go fp tn Gd σ i s' := by
  obtain ⟨H, pl, e, I, st, nf, gd⟩ := h
  obtain ⟨pl', e', I'⟩ := inv_kp hpn ap e I k
  exact ⟨H, pl', e', I', T.keep _ _ _ st fun b hb o q => k.keep b o (fun hs => ap.fp b hs hb) q, nf, gd⟩
/-- the turns: tests, values; Gd: what holds of the heap at each -/
structure TurnsOk (J : It) (g : TG) (tt : TT) (te : TE) (vs : List Nat) (σw : L2.St) (n : Nat) (pz : Nat → Bool) (yv : Nat → V) (Gd : Nat → Hp → Prop) : Prop where
  turn : ∀ i H, i < n → Gd i H → J.go i H ∧ ∀ x H', J.yld i H x H' → g x σw H' fun σ2 H2 => wipe σ2 vs = σw ∧ tt σ2 H2 fun b H3 => b = pz i ∧ (b = true → te σ2 H3 fun y H4 => y = yv i ∧ Gd (i + 1) H4) ∧ (b = false → Gd (i + 1) H3)
  stop : ∀ H, Gd n H → J.stop n H
/-- the consumer's objects stand as they stood -/
def SameS (S : List Addr) (s s' : Shared) : Prop := ∀ b ∈ S, ∀ o, s.heap.get? b = some o → s'.heap.get? b = some o
theorem SameS.pins {Xg : Cx} {S : List Addr} {a : Addr} {go : Obj} {pl r : List (Addr × Obj)} {σ σ' : L2.St} {H H' : Hp} {s₀ s s' : Shared} (h : SameS S s₀ s) (epl : pl.map (·.1) = S) (I : Inv Xg ((a, go) :: pl) σ H s) (I' : Inv Xg (((a, go) :: pl) ++ r) σ' H' s') : SameS S s₀ s' := fun b hb o e => by
  have e1 := h b hb o e
  rw [← epl] at hb
  obtain ⟨p, hp, ep⟩ := List.mem_map.mp hb
  have h1 := (I.pin p (List.mem_append_right _ (List.mem_cons_of_mem _ hp))).1
  have h2 := (I'.pin p (List.mem_append_right _ (List.mem_append_left _ (List.mem_cons_of_mem _ hp)))).1
  rw [ep, e1] at h1
  rw [ep] at h2
  exact h2.trans h1.symm
def gR (Xg : Cx) (S : List Addr) (a : Addr) (go : Obj) (Gd : Nat → Hp → Prop) (σ : L2.St) (n₀ g : Nat) : Nat → Shared → Shared → Prop := fun n s₀ s₁ => n = 0 ∧ g < s₁.gens.size ∧ SameS S s₀ s₁ ∧ GEd Xg S a go Gd σ n₀ s₁
def gY (Xg : Cx) (S : List Addr) (a : Addr) (go : Obj) (fp : List Addr) (tn : Nat → Heap → Prop) (Gd : Nat → Hp → Prop) (σ : L2.St) (n₀ g : Nat) (pz : Nat → Bool) (yv : Nat → V) : Protocol := fun m s₀ v s kap =>
  (∃ i, (passing pz n₀ 0)[(passing pz n₀ 0).length - 1 - m]? = some i ∧ RelV (yv i) v ∧ GSt Xg S a go fp tn Gd σ (i + 1) s) ∧ g < s.gens.size ∧ SameS S s₀ s ∧ ∀ s'', Kp S s s'' → kap (.send .none) s''
theorem seg_gl {Xg : Cx} {A : Around} {elt tg iter : Expr} {ifs : List Expr} {scope : Scope} {pos : Pos} {it a : Addr} {fp : List Addr} {tn : Nat → Heap → Prop} {J : It} {go : Obj} {S : List Addr} {g : Nat} {gt : TG} {tt : TT} {te : TE} {vs : List Nat} {σw : L2.St} {n₀ : Nat} {pz : Nat → Bool} {yv : Nat → V} {Gd : Nat → Hp → Prop}
    (hA : Xg.A = A.over (.compLoop (.GeneratorExp elt [⟨tg, iter, ifs, 0⟩] scope pos) 0 (.ref it) .none Xg.env) []) (hc : Xg.calm = true) (hco : Xg.env.scope.isCoroutine = false) (hpn : Xg.pn = []) (hex : Xg.ex = fp) (hxe : Xg.xe = fun _ _ => False)
    (T : Turn Xg.prog Xg.w Xg.K tg J fp it tn) (ap : SApart Xg S a fp) (haf : a ∉ fp) (hSf : ∀ b ∈ S, b ∉ fp) (pg : PG Xg tg gt) (pt : PTs Xg ifs tt) (pe : PE Xg elt te) (TO : TurnsOk J gt tt te vs σw n₀ pz yv Gd) :
    ∀ (k i : Nat) (s₀ s : Shared), n₀ - i = k → i ≤ n₀ → g < s.gens.size → SameS S s₀ s → GSt Xg S a go fp tn Gd σw i s →
      Seg (model Xg.prog Xg.w) A (fun n s₀ r s₁ => r = .ok .next ∧ gR Xg S a go Gd σw n₀ g n s₀ s₁) (gY Xg S a go fp tn Gd σw n₀ g pz yv) (passing pz n₀ i).length s₀
        (.compLoop (.GeneratorExp elt [⟨tg, iter, ifs, 0⟩] scope pos) 0 (.ref it) .none Xg.env)
        ((model Xg.prog Xg.w).den (.compLoop (.GeneratorExp elt [⟨tg, iter, ifs, 0⟩] scope pos) 0 (.ref it) .none Xg.env)) [] s := by
  have stat : ∀ {σ' : L2.St} {H' : Hp} {s' : Shared} {pl : List (Addr × Obj)}, pl.map (·.1) = S → Inv Xg ((a, go) :: pl) σ' H' s' → (∀ b ∈ fp, H' b = none) → ∀ b ∈ fp, FpOk Xg ((a, go) :: pl) H' b := fun {σ' H' s' pl} epl I' hn b hb => by
    have hbx : b ∈ Xg.ex := by rw [hex]; exact hb
    refine ⟨hn b hb, (I'.ok.exf b hbx).1, I'.ok.exfs b hbx, .inl hbx, fun x c e => (I'.ok.exf b hbx).2 x c e, fun p hp => ?_⟩
    rw [hpn] at hp
    rcases List.mem_cons.mp (show p ∈ (a, go) :: pl from hp) with e | hp
    · rw [e]
      exact fun z => haf (by rw [show a = b from z]; exact hb)
    · exact fun z => hSf p.1 (by rw [← epl]; exact List.mem_map.mpr ⟨p, hp, rfl⟩) (by rw [z]; exact hb)
  intro k
  induction k with
  | zero =>
    intro i s₀ s hk hi hgs hss hst
    have hin : i = n₀ := by omega
    subst hin
    obtain ⟨H, pl, epl, I, st, nf, gd⟩ := hst
    show Seg _ A _ _ _ s₀ _ ((compTurn (.GeneratorExp elt [⟨tg, iter, ifs, 0⟩] scope pos) 0 (.ref it) .none Xg.env).onRaise (leaving Xg.env)) [] s
    rw [compTurn_gen, Sem.onRaise_eq_wrap]
    refine seg_bind_wrap (wpAny_standAt ?_)
    refine seg_bind_wrap ?_
    rw [← hA]
    have td := T.done Xg rfl rfl rfl hc i _ s _ H (fun _ _ => False) I (stat epl I nf) st (TO.stop H gd)
    refine GenW.wpAny_gsz (Nat.succ_le_of_lt hgs) (thnF td fun r s6 ⟨hr, I6⟩ hg6 => ?_)
    subst hr
    exact seg_end (.ok .next) ⟨rfl, by rw [passing_end]; rfl, hg6, hss.pins (r := []) epl I (by rw [List.append_nil]; exact I6), H, pl, epl, I6, gd⟩
  | succ k ih =>
    intro i s₀ s hk hi hgs hss hst
    have hlt : i < n₀ := by omega
    obtain ⟨H, pl, epl, I, st, nf, gd⟩ := hst
    obtain ⟨jgo, step⟩ := TO.turn i H hlt gd
    show Seg _ A _ _ _ s₀ _ ((compTurn (.GeneratorExp elt [⟨tg, iter, ifs, 0⟩] scope pos) 0 (.ref it) .none Xg.env).onRaise (leaving Xg.env)) [] s
    rw [compTurn_gen, Sem.onRaise_eq_wrap]
    refine seg_bind_wrap (wpAny_standAt ?_)
    refine seg_bind_wrap ?_
    rw [← hA]
    have ti := T.item Xg rfl rfl rfl hc i _ s _ H (fun _ _ => False) I (stat epl I nf) st jgo
    refine GenW.wpAny_gsz (Nat.succ_le_of_lt hgs) (thnF ti fun r s6 ⟨u, hr, h6⟩ hg6 => ?_)
    subst hr
    refine seg_bind_wrap ?_
    rw [← hA]
    refine GenW.wpAny_gsz hg6 (thnF h6 fun _ s7 ⟨x, H7, I7, r7, y7, st7, n7⟩ hg7 => ?_)
    have I7' := I7.pinned (stat epl I7 n7) (T.obj _ _ st7)
    refine seg_bind_wrap ?_
    rw [← hA]
    have p1 := pg.run _ s7 _ H7 x u _ I7' r7 (step x H7 y7)
    rw [hxe] at p1
    refine GenW.wpAny_gsz hg7 (thnF p1 fun _ s8 ⟨σ8, H8, I8, hw8, q8⟩ hg8 => ?_)
    refine seg_bind_wrap ?_
    rw [← hA]
    have p2 := pt.run _ s8 σ8 H8 _ I8 q8
    rw [hxe] at p2
    refine GenW.wpAny_gsz hg8 (thnF p2 fun b s9 ⟨H9, I9, hb9, q9, q9'⟩ hg9 => ?_)
    have hwl : σw.length = σ8.length := by rw [← hw8, wipe_length]
    have fin : ∀ {s' : Shared} {H' : Hp}, Inv Xg (((a, go) :: pl) ++ pinsAt fp s7.heap) σ8 H' s' → Gd (i + 1) H' → GSt Xg S a go fp tn Gd σw (i + 1) s' := fun {s' H'} I' nx => by
      have pin' : ∀ b ∈ fp, ∀ o, s7.heap.get? b = some o → s'.heap.get? b = some o ∧ H' b = none := fun b hb o e =>
        let z := I'.pin (b, o) (List.mem_append_right _ (List.mem_append_right _ (mem_pinsAt hb e)))
        ⟨z.1, z.2.1⟩
      refine ⟨H', pl, epl, (I'.unpinned).weak hwl (fun j v e => ?_), T.keep _ _ _ st7 fun b hb o e => (pin' b hb o e).1, fun b hb => ?_, nx⟩
      · rw [← hw8] at e
        exact (wipe_some e).1
      · obtain ⟨o, e, _⟩ := T.obj _ _ st7 b hb
        exact (pin' b hb o e).2
    cases b with
    | false =>
      rw [passing_false hlt hb9.symm]
      simp only [Bool.false_eq_true, if_false]
      exact seg_again rfl (ih (i + 1) s₀ _ (by omega) hlt hg9 (hss.pins epl I I9) (fin I9 (q9' rfl)))
    | true =>
      rw [passing_true hlt hb9.symm, List.length_cons]
      simp only [if_true]
      have hy : ∀ v, yieldOut Xg.env v = yieldValue v := fun v => by simp only [yieldOut, hco, Bool.false_eq_true, if_false]
      simp only [hy]
      rw [Sem.bind_eq_wrap', Sem.bind_eq_wrap', Sem.wrap_wrap, Sem.wrap_wrap]
      refine seg_wrap ?_
      rw [← hA]
      have p3 := pe.run _ s9 σ8 H9 _ I9 (q9 rfl)
      rw [hxe] at p3
      refine GenW.wpAny_gsz hg9 (thnF p3 fun y s10 ⟨yV, H10, I10, ry, ey, gd10⟩ hg10 => ?_)
      subst ey
      have st10 := fin I10 gd10
      refine seg_at (seg_yield rfl rfl rfl ⟨⟨i, passing_here hlt hb9.symm, ry, st10⟩, hg10, hss.pins epl I I10, fun s'' hal => ?_⟩)
      exact seg_again rfl (ih (i + 1) s'' s'' (by omega) hlt (Nat.lt_of_lt_of_le hg10 hal.gsz) (fun _ _ _ e => e) (st10.kp T hpn ap hal))
end GxI
set_option Elab.async false
set_option linter.all false
set_option maxRecDepth 100000
set_option maxHeartbeats 2000000
namespace GxI
open PySem PySem.Spec PyProof.Rows L2
/-- the generator sleeps, j items are out -/
structure GAt (Xg : Cx) (A0 : Around) (S : List Addr) (a : Addr) (go : Obj) (fp : List Addr) (tn : Nat → Heap → Prop) (Gd : Nat → Hp → Prop) (σ : L2.St) (n₀ g : Nat) (pz : Nat → Bool) (yv : Nat → V) (j : Nat) (s : Shared) : Prop where
  cur : ∃ i, GEd Xg S a go Gd σ i s
  gsz : g < s.gens.size
  gs : ∃ gs, s.gens[g]? = some gs ∧ ∀ s'', Kp S s s'' → gs.Goes (model Xg.prog Xg.w) A0.in1 (fun n s₀ r s₁ => r = .ok .next ∧ gR Xg S a go Gd σ n₀ g n s₀ s₁) (gY Xg S a go fp tn Gd σ n₀ g pz yv) ((passing pz n₀ 0).length - j) (.send .none) s''
section
variable {Xg : Cx} {A0 : Around} {S : List Addr} {a : Addr} {go : Obj} {fp : List Addr} {tn : Nat → Heap → Prop} {Gd : Nat → Hp → Prop} {σ : L2.St} {n₀ g : Nat} {pz : Nat → Bool} {yv : Nat → V} {j : Nat} {s s' : Shared}
theorem Kp.trans {S : List Addr} {s s1 s2 : Shared} (x : Kp S s s1) (y : Kp S s1 s2) : Kp S s s2 :=
  ⟨y.os.trans x.os, y.bare, Nat.le_trans x.gsz y.gsz, fun b o hb e => y.keep b o hb (x.keep b o hb e), fun b hb o e => by
    obtain ⟨o', e', _⟩ := x.own b hb o e
    exact y.own b hb o' e'⟩
theorem GEd.kp (hpn : Xg.pn = []) (ap : SApart Xg S a fp) {i : Nat} (h : GEd Xg S a go Gd σ i s) (k : Kp S s s') : GEd Xg S a go Gd σ i s' := by
  obtain ⟨H, pl, e, I, gd⟩ := h
  obtain ⟨pl', e', I'⟩ := inv_kp hpn ap e I k
  exact ⟨H, pl', e', I', gd⟩
theorem GSt.ed {i : Nat} (h : GSt Xg S a go fp tn Gd σ i s) : GEd Xg S a go Gd σ i s := by
  obtain ⟨H, pl, e, I, _, _, gd⟩ := h
  exact ⟨H, pl, e, I, gd⟩
theorem GEd.nocell {i : Nat} (h : GEd Xg S a go Gd σ i s) : ∀ b ∈ S, ∀ o, s.heap.get? b = some o → ∀ v, o.data ≠ .cell v := fun b hb o e v => by
  obtain ⟨H, pl, epl, I, _⟩ := h
  rw [← epl] at hb
  obtain ⟨p, hp, ep⟩ := List.mem_map.mp hb
  obtain ⟨h1, _, _, _, h2⟩ := I.pin p (List.mem_append_right _ (List.mem_cons_of_mem _ hp))
  rw [ep, e] at h1
  cases h1
  exact h2 v
theorem GEd.bare {i : Nat} (h : GEd Xg S a go Gd σ i s) : AllBare s.gens := by
  obtain ⟨H, pl, epl, I, _⟩ := h
  exact I.bare
theorem GEd.gen {i : Nat} (h : GEd Xg S a go Gd σ i s) : s.heap.get? a = some go := by
  obtain ⟨H, pl, epl, I, _⟩ := h
  exact (I.pin (a, go) (List.mem_append_right _ List.mem_cons_self)).1
theorem GEd.nolimit {i : Nat} (h : GEd Xg S a go Gd σ i s) : s.heap.NoLimit := by
  obtain ⟨H, pl, epl, I, _⟩ := h
  exact I.nolimit
/-- the consumer has done what it may -/
theorem GAt.kp (hpn : Xg.pn = []) (ap : SApart Xg S a fp) (h : GAt Xg A0 S a go fp tn Gd σ n₀ g pz yv j s) (k : Kp S s s') (hg : s'.gens = s.gens) : GAt Xg A0 S a go fp tn Gd σ n₀ g pz yv j s' := by
  obtain ⟨⟨i, c⟩, z, gs, e, q⟩ := h
  exact ⟨⟨i, c.kp hpn ap k⟩, by rw [hg]; exact z, gs, by rw [hg]; exact e, fun s'' k' => q s'' (k.trans k')⟩
theorem kp_setGen {i : Nat} {x : GenState} (c : GEd Xg S a go Gd σ i s) (hx : x.bare = true) : Kp S s (s.setGen g x) :=
  ⟨rfl, L2.allBare_setGen c.bare hx, by rw [GenW.setGen_size]; exact Nat.le_refl _, fun _ _ _ e => e, fun b hb o e => ⟨o, e, c.nocell b hb o e⟩⟩
theorem kp_heap {i : Nat} {h' : Heap} {tk : Nat} (c : GEd Xg S a go Gd σ i s) (k : ∀ b o, s.heap.get? b = some o → h'.get? b = some o) : Kp S s { s with heap := h', toks := tk } :=
  ⟨rfl, c.bare, Nat.le_refl _, fun b o _ e => k b o e, fun b hb o e => ⟨o, k b o e, c.nocell b hb o e⟩⟩
variable {Q : Option Value → Shared → Prop} {E : Value → Shared → Prop}
theorem GAt.item (hpn : Xg.pn = []) (ap : SApart Xg S a fp) (hgo : ∀ h : Heap, h.get? a = some go → h.IsGen a g) (hh : A0.handled = none) (hroom : A0.depth < recursionLimit) (hj : j < (passing pz n₀ 0).length) (h : GAt Xg A0 S a go fp tn Gd σ n₀ g pz yv j s)
    (hQ : ∀ v s' i, (passing pz n₀ 0)[j]? = some i → RelV (yv i) v → SameS S s s' → GAt Xg A0 S a go fp tn Gd σ n₀ g pz yv (j + 1) s' → Q (some v) s') : wpAny (model Xg.prog Xg.w) A0 (pyNext (.ref a)) Q E s := by
  obtain ⟨⟨i0, c⟩, z, gs, e, q⟩ := h
  obtain ⟨m, hm⟩ : ∃ m, (passing pz n₀ 0).length - j = m + 1 := ⟨(passing pz n₀ 0).length - j - 1, by omega⟩
  have q1 := q _ (kp_setGen (g := g) (x := .running) c rfl)
  rw [hm] at q1
  refine wpAny_pyNext_genexpQ (P := gR Xg S a go Gd σ n₀ g) hh c.nolimit hroom (hgo _ c.gen) e q1 (fun v s₁ gs' hb hv => ?_) (fun s₁ hp h' hk => ?_)
  · obtain ⟨⟨i, hi, hF, hst⟩, hgz, hss, hkap⟩ := hv
    have hidx : (passing pz n₀ 0).length - 1 - (m + 1 - 1) = j := by omega
    rw [hidx] at hi
    refine hQ v _ i hi hF hss ⟨⟨i + 1, hst.ed.kp hpn ap (kp_setGen hst.ed hb)⟩, by rw [GenW.setGen_size]; exact hgz, gs', L2.setGen_at hgz, fun s'' k => ?_⟩
    have e2 : (passing pz n₀ 0).length - (j + 1) = m := by omega
    rw [e2]
    exact hkap s'' ((kp_setGen hst.ed hb).trans k)
  · exact absurd hp.1 (Nat.succ_ne_zero m)
theorem GAt.done (hpn : Xg.pn = []) (ap : SApart Xg S a fp) (hgo : ∀ h : Heap, h.get? a = some go → h.IsGen a g) (hh : A0.handled = none) (hroom : A0.depth < recursionLimit) (hj : j = (passing pz n₀ 0).length) (h : GAt Xg A0 S a go fp tn Gd σ n₀ g pz yv j s)
    (hQ : ∀ s', SameS S s s' → GEd Xg S a go Gd σ n₀ s' → Q none s') : wpAny (model Xg.prog Xg.w) A0 (pyNext (.ref a)) Q E s := by
  obtain ⟨⟨i0, c⟩, z, gs, e, q⟩ := h
  have q1 := q _ (kp_setGen (g := g) (x := .running) c rfl)
  rw [show (passing pz n₀ 0).length - j = 0 by omega] at q1
  refine wpAny_pyNext_genexpQ (P := gR Xg S a go Gd σ n₀ g) hh c.nolimit hroom (hgo _ c.gen) e q1 (fun v s₁ gs' hb hv => ?_) (fun s₁ hp h' hk => ?_)
  · obtain ⟨⟨i, hi, hF, hst⟩, hgz, _, hkap⟩ := hv
    exact False.elim (hkap s₁ (Kp.refl hst.ed.bare hst.ed.nocell))
  · obtain ⟨_, hgz, hss, ced⟩ := hp
    have k1 : Kp S s₁ (s₁.setGen g .finished) := kp_setGen ced rfl
    have c1 := ced.kp hpn ap k1
    exact hQ _ (fun b hb o e => hk b o (hss b hb o e)) (c1.kp hpn ap (kp_heap (tk := (s₁.setGen g .finished).toks) c1 hk))
theorem GAt.toks (hpn : Xg.pn = []) (ap : SApart Xg S a fp) (tk : Nat) (h : GAt Xg A0 S a go fp tn Gd σ n₀ g pz yv j s) : GAt Xg A0 S a go fp tn Gd σ n₀ g pz yv j { s with toks := tk } := by
  obtain ⟨⟨i0, c⟩, _⟩ := _root_.id h
  exact h.kp hpn ap (kp_heap c fun _ _ e => e) rfl
theorem GAt.ed (h : GAt Xg A0 S a go fp tn Gd σ n₀ g pz yv j s) : ∃ i, GEd Xg S a go Gd σ i s := h.cur
end
section
variable {Xg : Cx} {A : Around} {S : List Addr} {a : Addr} {go : Obj} {fp : List Addr} {tn : Nat → Heap → Prop} {Gd : Nat → Hp → Prop} {σ : L2.St} {n₀ g : Nat} {pz pb : Nat → Bool} {R : Result → Shared → Prop}
theorem drop_cons {α : Type} {l : List α} {j : Nat} {x : α} (h : l[j]? = some x) : l.drop j = x :: l.drop (j + 1) := by
  obtain ⟨hj, e⟩ := List.getElem?_eq_some_iff.mp h
  rw [List.drop_eq_getElem_cons hj, e]
theorem any_loopG (hpn : Xg.pn = []) (ap : SApart Xg S a fp) (hgo : ∀ h : Heap, h.get? a = some go → h.IsGen a g) (hh : A.in1.handled = none) (hroom : A.in1.depth < recursionLimit) :
    ∀ (k j : Nat) (s : Shared), (passing pz n₀ 0).length - j = k → j ≤ (passing pz n₀ 0).length → GAt Xg A.in1 S a go fp tn Gd σ n₀ g pz (fun i => .bl (pb i)) j s →
    (∀ s' i, GEd Xg S a go Gd σ i s' → R (.ok (.ret (.bool (((passing pz n₀ 0).drop j).any pb)))) s') → codeAny (model Xg.prog Xg.w) A (.builtin "any.loop" ⟨[.ref a], []⟩) R s := by
  intro k
  induction k with
  | zero =>
    intro j s hk hj h hR
    have hjn : j = (passing pz n₀ 0).length := by omega
    refine codeAny_builtin F.entry_any_loop ?_
    rw [Around.under_plainId F.plain_any_loop _]
    show wpAny _ A.in1 (pyNext (.ref a) >>= _) _ _ s
    refine wpAny_bind (h.done hpn ap hgo hh hroom hjn fun s' _ c => ?_)
    refine wpAny_bind (wpAny_rule (wpAny_pure ?_))
    have := hR s' _ c
    rw [List.drop_of_length_le (by omega)] at this
    exact this
  | succ k ih =>
    intro j s hk hj h hR
    have hlt : j < (passing pz n₀ 0).length := by omega
    refine codeAny_builtin F.entry_any_loop ?_
    rw [Around.under_plainId F.plain_any_loop _]
    show wpAny _ A.in1 (pyNext (.ref a) >>= _) _ _ s
    refine wpAny_bind (h.item hpn ap hgo hh hroom hlt fun v s' i hi rv _ h' => ?_)
    have rv : v = .bool (pb i) := rv
    subst rv
    have hd := drop_cons hi
    refine wpAny_bind (wpAny_holding (wpAny_truthy_bool ?_))
    refine wpAny_bind (wpAny_letGo ?_)
    cases hb : pb i with
    | false =>
      simp only [Bool.false_eq_true, if_false]
      refine wpAny_pure ⟨plainId_quiet F.plain_any_loop _, ih (j + 1) _ (by omega) hlt h' fun s'' i' hm' => ?_⟩
      have := hR s'' i' hm'
      rw [hd, List.any_cons, hb, Bool.false_or] at this
      exact this
    | true =>
      simp only [if_true]
      refine wpAny_bind (wpAny_rule (wpAny_pure ?_))
      obtain ⟨i', c⟩ := h'.cur
      have := hR _ i' c
      rw [hd, List.any_cons, hb, Bool.true_or] at this
      exact this
theorem all_loopG (hpn : Xg.pn = []) (ap : SApart Xg S a fp) (hgo : ∀ h : Heap, h.get? a = some go → h.IsGen a g) (hh : A.in1.handled = none) (hroom : A.in1.depth < recursionLimit) :
    ∀ (k j : Nat) (s : Shared), (passing pz n₀ 0).length - j = k → j ≤ (passing pz n₀ 0).length → GAt Xg A.in1 S a go fp tn Gd σ n₀ g pz (fun i => .bl (pb i)) j s →
    (∀ s' i, GEd Xg S a go Gd σ i s' → R (.ok (.ret (.bool (((passing pz n₀ 0).drop j).all pb)))) s') → codeAny (model Xg.prog Xg.w) A (.builtin "all.loop" ⟨[.ref a], []⟩) R s := by
  intro k
  induction k with
  | zero =>
    intro j s hk hj h hR
    have hjn : j = (passing pz n₀ 0).length := by omega
    refine codeAny_builtin F.entry_all_loop ?_
    rw [Around.under_plainId F.plain_all_loop _]
    show wpAny _ A.in1 (pyNext (.ref a) >>= _) _ _ s
    refine wpAny_bind (h.done hpn ap hgo hh hroom hjn fun s' _ c => ?_)
    refine wpAny_bind (wpAny_rule (wpAny_pure ?_))
    have := hR s' _ c
    rw [List.drop_of_length_le (by omega)] at this
    exact this
  | succ k ih =>
    intro j s hk hj h hR
    have hlt : j < (passing pz n₀ 0).length := by omega
    refine codeAny_builtin F.entry_all_loop ?_
    rw [Around.under_plainId F.plain_all_loop _]
    show wpAny _ A.in1 (pyNext (.ref a) >>= _) _ _ s
    refine wpAny_bind (h.item hpn ap hgo hh hroom hlt fun v s' i hi rv _ h' => ?_)
    have rv : v = .bool (pb i) := rv
    subst rv
    have hd := drop_cons hi
    refine wpAny_bind (wpAny_holding (wpAny_truthy_bool ?_))
    refine wpAny_bind (wpAny_letGo ?_)
    cases hb : pb i with
    | true =>
      simp only [if_true]
      refine wpAny_pure ⟨plainId_quiet F.plain_all_loop _, ih (j + 1) _ (by omega) hlt h' fun s'' i' hm' => ?_⟩
      have := hR s'' i' hm'
      rw [hd, List.all_cons, hb, Bool.true_and] at this
      exact this
    | false =>
      simp only [Bool.false_eq_true, if_false]
      refine wpAny_bind (wpAny_rule (wpAny_pure ?_))
      obtain ⟨i', c⟩ := h'.cur
      have := hR _ i' c
      rw [hd, List.all_cons, hb, Bool.false_and] at this
      exact this
variable {val : Nat → Int} {SA : Addr}
theorem sum_drop {l : List Nat} {j i : Nat} (val : Nat → Int) (h : l[j]? = some i) : ((l.take (j + 1)).map val).sum = ((l.take j).map val).sum + val i := by
  rw [List.take_add_one, h]
  simp
theorem kp_upd {i : Nat} {s : Shared} {its : Array Value} {c : Nat} {f : Array Value → Array Value} {tk : Nat} (ed : GEd Xg [SA] a go Gd σ i s) (hS : s.heap.get? SA = some { cls := .type "list", dict := none, data := .seq its c, slots := #[] }) :
    Kp [SA] s { s with heap := s.heap.update SA (Obj.mapSeq f), toks := tk } :=
  ⟨rfl, ed.bare, Nat.le_refl _, fun b o hb e => (Heap.get?_update_other _ _ (fun h : SA = b => hb (by rw [h]; exact List.mem_singleton.mpr rfl))).trans e, fun b hb o e => by
    rw [List.mem_singleton.mp hb]
    exact ⟨_, Heap.get?_update_self _ hS rfl, fun v z => by cases z⟩⟩
theorem sum_loopG (hpn : Xg.pn = []) (ap : SApart Xg [SA] a fp) (hgo : ∀ h : Heap, h.get? a = some go → h.IsGen a g) (hh : A.in1.handled = none) (hroom : A.in1.depth < recursionLimit) :
    ∀ (k j : Nat) (s : Shared) (tA : Tok) (c : Nat) (stage : Int), (stage = 0 ∨ stage = 2) → (passing pz n₀ 0).length - j = k → j ≤ (passing pz n₀ 0).length → GAt Xg A.in1 [SA] a go fp tn Gd σ n₀ g pz (fun i => .int (val i)) j s →
    s.heap.get? SA = some { cls := .type "list", dict := none, data := .seq #[.int (((passing pz n₀ 0).take j).map val).sum tA] c, slots := #[] } →
    (∀ s' i t', GEd Xg [SA] a go Gd σ i s' → R (.ok (.ret (.int (((passing pz n₀ 0)).map val).sum t'))) s') → codeAny (model Xg.prog Xg.w) A (.builtin "sum.loop" ⟨[.ref a, .ref SA, rawInt stage, rawInt 0], []⟩) R s := by
  intro k
  induction k with
  | zero =>
    intro j s tA c stage hstage hk hj h hS hR
    have hjn : j = (passing pz n₀ 0).length := by omega
    refine codeAny_builtin F.entry_sum_loop ?_
    rw [Around.under_plainId F.plain_sum_loop _]
    show wpAny _ A.in1 (seqItems? (.ref SA) >>= _) _ _ s
    refine wpAny_bind (wpAny_seqItems hS rfl ?_)
    show wpAny _ A.in1 (tryCatch (pyNext (.ref a)) _ >>= _) _ _ s
    refine wpAny_bind (wpAny_tryCatch (h.done hpn ap hgo hh hroom hjn fun s' _ c => ?_))
    have := hR s' _ tA c
    rw [hjn, List.take_length]
    exact wpAny_pure this
  | succ k ih =>
    intro j s tA c stage hstage hk hj h hS hR
    have hlt : j < (passing pz n₀ 0).length := by omega
    refine codeAny_builtin F.entry_sum_loop ?_
    rw [Around.under_plainId F.plain_sum_loop _]
    show wpAny _ A.in1 (seqItems? (.ref SA) >>= _) _ _ s
    refine wpAny_bind (wpAny_seqItems hS rfl ?_)
    show wpAny _ A.in1 (tryCatch (pyNext (.ref a)) _ >>= _) _ _ s
    refine wpAny_bind (wpAny_tryCatch (h.item hpn ap hgo hh hroom hlt fun v s' i hi rv hss h' => ?_))
    obtain ⟨t, rfl⟩ := _root_.id rv
    have hS' := hss SA (List.mem_singleton.mpr rfl) _ hS
    have esum := sum_drop val hi
    obtain ⟨i1, ed⟩ := h'.cur
    generalize hps : (((passing pz n₀ 0).take j).map val).sum = ps at hS hS' esum
    rcases hstage with rfl | rfl
    · show wpAny _ A.in1 (if (_ : Bool) = true then (mkInt (ps + val i) >>= _) else _) _ _ _
      split
      · refine wpAny_bind (wpAny_mkInt ?_)
        show wpAny _ A.in1 (updateSeq SA (fun _ => #[.int (ps + val i) s'.toks]) >>= _) _ _ _
        refine wpAny_bind ?_
        refine wpAny_updateSeq hS' rfl (wpAny_pure ⟨plainId_quiet F.plain_sum_loop _, ih (j + 1) _ _ _ 0 (Or.inl rfl) (by omega) hlt (h'.kp hpn ap (kp_upd ed hS') rfl) (by rw [esum]; exact Heap.get?_update_self _ hS' rfl) hR⟩)
      · refine wpAny_bind (wpAny_rule ?_)
        refine wpAny_bind (wpAny_attempt (wpAny_holding (PySem.P.add_int ?_)))
        show wpAny _ A.in1 (updateSeq SA (fun _ => #[.int (ps + val i) s'.toks]) >>= _) _ _ _
        refine wpAny_bind ?_
        refine wpAny_updateSeq hS' rfl ?_
        have hS2 := Heap.get?_update_self (Obj.mapSeq fun _ => #[Value.int (ps + val i) s'.toks]) hS' rfl
        have h2 := h'.kp hpn ap (kp_upd (f := fun _ => #[Value.int (ps + val i) s'.toks]) (tk := s'.toks + 1) ed hS') rfl
        obtain ⟨i2, ed2⟩ := h2.cur
        refine wpAny_bind (wpAny_letGo ?_)
        refine wpAny_bind ?_
        refine wpAny_updateSeq hS2 rfl (wpAny_pure ⟨plainId_quiet F.plain_sum_loop _, ih (j + 1) _ _ _ 2 (Or.inr rfl) (by omega) hlt (h2.kp hpn ap (kp_upd ed2 hS2) rfl) (by rw [esum]; exact Heap.get?_update_self _ hS2 rfl) hR⟩)
    · show wpAny _ A.in1 ((holding [Value.int (val i) t] (binaryOp .Add (.int ps tA) (.int (val i) t))).attempt >>= _) _ _ _
      refine wpAny_bind (wpAny_attempt (wpAny_holding (PySem.P.add_int ?_)))
      show wpAny _ A.in1 (updateSeq SA (fun _ => #[.int (ps + val i) s'.toks]) >>= _) _ _ _
      refine wpAny_bind ?_
      refine wpAny_updateSeq hS' rfl ?_
      have hS2 := Heap.get?_update_self (Obj.mapSeq fun _ => #[Value.int (ps + val i) s'.toks]) hS' rfl
      have h2 := h'.kp hpn ap (kp_upd (f := fun _ => #[Value.int (ps + val i) s'.toks]) (tk := s'.toks + 1) ed hS') rfl
      obtain ⟨i2, ed2⟩ := h2.cur
      refine wpAny_bind (wpAny_letGo ?_)
      refine wpAny_bind ?_
      refine wpAny_updateSeq hS2 rfl (wpAny_pure ⟨plainId_quiet F.plain_sum_loop _, ih (j + 1) _ _ _ 2 (Or.inr rfl) (by omega) hlt (h2.kp hpn ap (kp_upd ed2 hS2) rfl) (by rw [esum]; exact Heap.get?_update_self _ hS2 rfl) hR⟩)
end
end GxI
set_option Elab.async false
set_option linter.all false
set_option maxRecDepth 100000
set_option maxHeartbeats 2000000
namespace GxI
open PySem PySem.Spec PyProof.Rows L2
theorem nb1 {s4 s5 b : Nat} (e : s5 = s4 + 1 + 1) (h : s5 ≤ b) : s4 ≤ b := by omega
theorem nb1' {s4 s5 b : Nat} (e : s5 = s4 + 1 + 1) (h : s5 ≤ b) : s4 < b := by omega
theorem nb3 {s4 s5 b c : Nat} (e : s5 = s4 + 1 + 1) (h : s5 ≤ b) (hc : c < s4) : c ≠ b := by omega
theorem nb4 {s4 s5 b h' : Nat} (e : s5 = s4 + 1 + 1) (h : s5 ≤ b) (hc : h' = s4 + 1) : b ≠ h' := by omega
theorem nb5 {s4 h' : Nat} (hc : h' = s4 + 1) : ¬ h' < s4 := by omega
theorem nb6 {s4 h' : Nat} (hc : h' = s4 + 1) : s4 < h' := by omega
/-- a generator that has not begun -/
def MadeG (Xg : Cx) (A0 : Around) (a : Addr) (go : Obj) (fp : List Addr) (tn : Nat → Heap → Prop) (Gd : Nat → Hp → Prop) (σ : L2.St) (n₀ g : Nat) (pz : Nat → Bool) (yv : Nat → V) (s5 : Shared) : Prop :=
  ∀ (S : List Addr) (pl : List (Addr × Obj)) (s6 : Shared), pl.map (·.1) = S → s6.gens = s5.gens → s6.os = s5.os → (∀ b o, s5.heap.get? b = some o → s6.heap.get? b = some o) →
    (∀ p ∈ pl, s5.heap.objs.size ≤ p.1 ∧ s6.heap.get? p.1 = some p.2 ∧ ∀ v, p.2.data ≠ .cell v) → SApart Xg S a fp ∧ GAt Xg A0 S a go fp tn Gd σ n₀ g pz yv 0 s6
theorem seg_gstart {Xg : Cx} {A : Around} {elt tg iter : Expr} {ifs : List Expr} {scope : Scope} {pos : Pos} {it a : Addr} {fp : List Addr} {tn : Nat → Heap → Prop} {J : It} {go : Obj} {S : List Addr} {g : Nat} {gt : TG} {tt : TT} {te : TE} {vs : List Nat} {σw : L2.St} {n₀ : Nat} {pz : Nat → Bool} {yv : Nat → V} {Gd : Nat → Hp → Prop}
    (hA : Xg.A = A.over (.compLoop (.GeneratorExp elt [⟨tg, iter, ifs, 0⟩] scope pos) 0 (.ref it) .none Xg.env) []) (hc : Xg.calm = true) (hco : Xg.env.scope.isCoroutine = false) (hpn : Xg.pn = []) (hex : Xg.ex = fp) (hxe : Xg.xe = fun _ _ => False)
    (T : Turn Xg.prog Xg.w Xg.K tg J fp it tn) (ap : SApart Xg S a fp) (haf : a ∉ fp) (hSf : ∀ b ∈ S, b ∉ fp) (pg : PG Xg tg gt) (pt : PTs Xg ifs tt) (pe : PE Xg elt te) (TO : TurnsOk J gt tt te vs σw n₀ pz yv Gd)
    (s : Shared) (hgs : g < s.gens.size) (hst : GSt Xg S a go fp tn Gd σw 0 s) :
    Seg (model Xg.prog Xg.w) A (fun n s₀ r s₁ => r = .ok .next ∧ gR Xg S a go Gd σw n₀ g n s₀ s₁) (gY Xg S a go fp tn Gd σw n₀ g pz yv) (passing pz n₀ 0).length s
      (.compStart (.GeneratorExp elt [⟨tg, iter, ifs, 0⟩] scope pos) 0 (.ref it) .none Xg.env)
      ((model Xg.prog Xg.w).den (.compStart (.GeneratorExp elt [⟨tg, iter, ifs, 0⟩] scope pos) 0 (.ref it) .none Xg.env)) [] s := by
  have loop := seg_gl (g := g) (pos := pos) (scope := scope) hA hc hco hpn hex hxe T ap haf hSf pg pt pe TO n₀ 0 s s (Nat.sub_zero _) (Nat.zero_le _) hgs (fun _ _ _ e => e) hst
  obtain ⟨H, pl, epl, I, st, nf, gd⟩ := hst
  show Seg _ A _ _ _ s _ ((compStart (.GeneratorExp elt [⟨tg, iter, ifs, 0⟩] scope pos) 0 (.ref it) .none Xg.env).onRaise (leaving Xg.env)) [] s
  unfold compStart
  rw [Sem.onRaise_eq_wrap]
  show Seg _ A _ _ _ s _ ((ask >>= _).wrap _ _ _ _) [] s
  refine seg_bind_wrap (wpAny_askSetting ?_)
  split
  · exact seg_again rfl loop
  · first
      | exact seg_bind_wrap (wpAny_rule (seg_bind_wrap (wpAny_standAt (seg_bind_wrap (T.self _ 0 s _ _ st (seg_again rfl loop))))))
      | (refine seg_bind_wrap (wpAny_rule ?_); show Seg _ A _ _ _ s _ ((standAt iter.pos >>= _).wrap _ _ _ _) [] s; exact seg_bind_wrap (wpAny_standAt (seg_bind_wrap (T.self _ 0 s _ _ st (seg_again rfl loop)))))
abbrev ArdG (A : Around) (elt tg iter : Expr) (ifs : List Expr) (scope : Scope) (pos : Pos) (it : Addr) (cenv : Env) : Around := A.in1.in1.over (.compLoop (.GeneratorExp elt [⟨tg, iter, ifs, 0⟩] scope pos) 0 (.ref it) .none cenv) []
theorem ardG_room {k : Nat} {A : Around} {elt tg iter : Expr} {ifs : List Expr} {scope : Scope} {pos : Pos} {it : Addr} {cenv : Env} (hr : Room (k + 1) A) : Room k (ArdG A elt tg iter ifs scope pos it cenv) := by
  obtain ⟨h1, h2, h3⟩ := hr
  refine ⟨h1, ?_, ?_⟩
  · show A.depth + 0 + 1 + 3 * k + 5 < recursionLimit
    omega
  · show A.units + 1 + 1 + 0 + 3 + 16 * k + 200 < cLine
    omega
theorem ardG_frames {A : Around} {elt tg iter : Expr} {ifs : List Expr} {scope : Scope} {pos : Pos} {it : Addr} {cenv : Env} {l : List Env} (h : A.frames = some l) : (ArdG A elt tg iter ifs scope pos it cenv).frames = some (cenv :: l) := by
  show pushEnvs [cenv] (pushEnvs [] A.frames) = _
  rw [h]
  rfl
/-- what is known behind the making of a generator -/
structure ReadyG (X : Cx) (pins : List (Addr × Obj)) (σ : L2.St) (vs : List Nat) (Xg : Cx) (a : Addr) (go : Obj) (fp : List Addr) (tn : Nat → Heap → Prop) (Gd : Nat → Hp → Prop) (n g : Nat) (pz : Nat → Bool) (yv : Nat → V) (s5 : Shared) : Prop where
  made : MadeG Xg X.A.in1 a go fp tn Gd (wipe σ vs) n g pz yv s5
  pn : Xg.pn = []
  isgen : ∀ h : Heap, h.get? a = some go → h.IsGen a g
  here : s5.heap.get? a = some go
  prog : Xg.prog = X.prog
  w : Xg.w = X.w
  back : ∀ S s' i, GEd Xg S a go Gd (wipe σ vs) i s' → ∃ H', Inv X pins σ H' s' ∧ Gd i H'
section
variable {X : Cx} {pins : List (Addr × Obj)} {σ : L2.St} {H : Hp} {s : Shared}
/-- the running code object at c, its table at P; Gc: what is to be known -/
structure TabX (X : Cx) (c P : Addr) (Gc : Hp → Prop) : Prop where
  code : ∀ {pins : List (Addr × Obj)} {σ : L2.St} {H : Hp} {s : Shared}, Inv X pins σ H s → Gc H → PySem.W.CodeHd s.heap c P
  bm : ∃ P0, X.base.BuiltinsAt X.mg P0
theorem TabX.of {X : Cx} {c P : Addr} {Gc : Hp → Prop} (TB : GxR.TabB X.base X.mg c P) : TabX X c P Gc := ⟨fun I _ => TB.code.keeps fun b u e => I.bk b u e, P, TB.bm⟩
/-- the reading of a generator expression -/
def tGx (Gc : Hp → Prop) (wi : TI) (g : TG) (tt : TT) (te : TE) (vs : List Nat) (P : Addr) (R : Nat → (Nat → Bool) → (Nat → V) → (Nat → Hp → Prop) → Prop) : L2.St → Hp → Prop := fun σ H =>
  wi σ H fun J H1 => Gc H1 ∧ GxR.TabG H1 P ∧ ∀ H2, GxR.Tabbed P H1 H2 → ∃ n pz yv Gd, Gd 0 H2 ∧ TurnsOk J g tt te vs (wipe σ vs) n pz yv Gd ∧ R n pz yv Gd
theorem gx_eval {Gc : Hp → Prop} {k : Nat} {c P : Addr} {elt tg iter : Expr} {ifs : List Expr} {scope : Scope} {own : List (Str × Nat)} {gpos : Pos} {wi : TI} {g : TG} {tt : TT} {te : TE} {R : Nat → (Nat → Bool) → (Nat → V) → (Nat → Hp → Prop) → Prop} {Q' : Value → Shared → Prop}
    (hr : Room (k + 1) X.A) (hc : X.calm = true) (hN : X.N.Nodup) (TB : TabX X c P Gc) (hcode : X.env.code = .ref c) (gs : GxS X.env scope) (ok : BlkOk X.N X.env.scope scope own)
    (hi : PI X tg iter wi)
    (hg : ∀ (A : Around) (s : Shared) (H : Hp) (C : Addr) (cd : Value) (cl : List (Str × Addr)) (fp : List Addr), Room k A → PG (gcx X A s H (genEnv scope cl C cd builtinsNs X.env) fp) tg g)
    (ht : ∀ (A : Around) (s : Shared) (H : Hp) (C : Addr) (cd : Value) (cl : List (Str × Addr)) (fp : List Addr), Room k A → PTs (gcx X A s H (genEnv scope cl C cd builtinsNs X.env) fp) ifs tt)
    (he : ∀ (A : Around) (s : Shared) (H : Hp) (C : Addr) (cd : Value) (cl : List (Str × Addr)) (fp : List Addr), Room k A → PE (gcx X A s H (genEnv scope cl C cd builtinsNs X.env) fp) elt te)
    (hs : ∀ v, genFold iter X.env v = pure v) (I : Inv X pins σ H s) (h : tGx Gc wi g tt te (own.map (·.2)) P R σ H)
    (hQ : ∀ n pz yv Gd Xg a go fp tn g s5, R n pz yv Gd → ReadyG X pins σ (own.map (·.2)) Xg a go fp tn Gd n g pz yv s5 → Q' (.ref a) s5) :
    wpAny (model X.prog X.w) X.A (eval (.GeneratorExp elt [⟨tg, iter, ifs, 0⟩] scope gpos) X.env) Q' X.xe s := by
  have hfree : ∀ y ∈ scope.names, y.2 = .free → ∃ c, X.env.cells.lookup y.1 = some c := fun y hy e => by
    rcases ok.free y hy e with k | k
    · exact I.ok.has _ (.inl k)
    · exact I.ok.has _ (.inr k)
  refine wpAny_GeneratorExp_make gs.co (closure_ok hfree) gs.nocell gs.dot ok.kind (by have := hr.dp; omega) ?_ hs
  refine thn (hi.run pins s σ H _ I h) fun xv s1 hx => thn hx fun itv s2 h2 => ?_
  obtain ⟨it, fp, tn, J, H1, e, I1, T, st2, f2, gc, ⟨ps, hP, ht0⟩, q1⟩ := h2
  subst e
  refine ⟨I1.nolimit, ?_⟩
  have hPs : s2.heap.get? P = some { cls := .none, data := .fields ps } := I1.hok P _ hP
  have cd : PySem.W.CodeHd s2.heap c P := TB.code I1 gc
  have gP : mainGlobals ≠ P := fun z => by
    obtain ⟨o, es, ep, ho, hd, _, _⟩ := I1.mod.glob.keeps I1.bk
    rw [z, hPs] at ho
    cases ho
    cases hd
  have fpP : ∀ b ∈ fp, b ≠ P := fun b hb z => by
    have := (f2 b hb).1
    rw [z, hP] at this
    cases this
  have cont : ∀ (code : Value) (h3 : Heap) (tk : Nat) (ps' : Array Value), Heap.ExtBut P s2.heap h3 → s2.heap.objs.size ≤ h3.objs.size → h3.get? P = some { cls := .none, data := .fields ps' } → (∃ more, ps' = ps ++ more) → TriplesOk ps'.toList →
      wpAny (model X.prog X.w) X.A (builtinsFor X.env.globals X.env.builtins) (fun bi s₄ =>
        ∀ h', h'.Ns s₄.heap.objs.size (fun y => if y = ".0" then some (.ref it) else none) → Heap.SameBut s₄.heap.objs.size (s₄.heap.push { cls := .type "frame", data := .dict #[] }) h' →
          Q' (.ref h'.objs.size) { s₄ with
            gens := s₄.gens.push (.fresh (.compStart (.GeneratorExp elt [⟨tg, iter, ifs, 0⟩] scope gpos) 0 (.ref it) .none (genEnv scope (cloFrom X.env.cells scope.names []) s₄.heap.objs.size code bi X.env))),
            toks := s₄.toks + 1 + 1 + 1,
            heap := h'.push { cls := .type "generator", data := .fields #[.int s₄.gens.size 0, .str "<genexpr>" (s₄.toks + 1), .str (X.env.qual ++ "<genexpr>") (s₄.toks + 1 + 1)] } }) X.xe { s2 with heap := h3, toks := tk } := by
    intro code h3 tk ps' hx hsz hP3 hmore ht3
    obtain ⟨P0, bm, ob, e1, e2, e3, _, e5, e6, e7, e8⟩ := TB.bm
    have e4 : bm ≠ P := fun z => by
      have h1 := I1.bk _ _ e5
      rw [z, hPs] at h1
      cases h1
      cases e8
    have keep3 : ∀ b u, b ≠ P → s2.heap.get? b = some u → h3.get? b = some u := fun b u hb e => hx b u hb e
    refine wpAny_builtinsFor (m := X.mg) (by rw [I1.ok.glob]; exact (I1.mod.glob.keeps I1.bk).extBut hx gP) e1 e2 (keep3 _ _ e4 (I1.bk _ _ e5)) e6 e7 e8 ?_
    obtain ⟨more, em⟩ := hmore
    -- the table has grown
    have I4 := GxR.inv_tab (more := more) (h' := h3) (g' := s2.gens) (d' := s2.drawn) (t' := tk) I1 hP keep3 (by rw [← em]; exact hP3) I1.bare
    generalize hs4 : ({ s2 with heap := h3, gens := s2.gens, drawn := s2.drawn, toks := tk } : Shared) = s4 at I4
    have eh4 : s4.heap = h3 := by rw [← hs4]
    intro h' hn' hs'
    have tab : GxR.Tabbed P H1 (upd H1 P (.tbl (ps ++ more))) := ⟨⟨ps ++ more, upd_same, by rw [← em]; exact ht3⟩, fun b hb => upd_ne hb⟩
    obtain ⟨n, pz, yv, Gd, gd0, TO, hR⟩ := q1 _ tab
    generalize hH2 : upd H1 P (.tbl (ps ++ more)) = H2 at I4 gd0 tab
    have st4 : tn 0 s4.heap := T.keep _ _ _ st2 fun b hb o e => by rw [eh4]; exact keep3 b o (fpP b hb) e
    have f4 : ∀ b ∈ fp, FpOk X pins H2 b ∧ b < s4.heap.objs.size := fun b hb => by
      obtain ⟨o, e, _⟩ := T.obj _ _ st4 b hb
      refine ⟨⟨?_, (f2 b hb).2⟩, Heap.lt_size e⟩
      rw [tab.2 b (fpP b hb)]
      exact (f2 b hb).1
    have hsz5 : h'.objs.size = s4.heap.objs.size + 1 := by rw [hs'.1, Heap.size_push]
    have keep' : ∀ b o, s4.heap.get? b = some o → h'.get? b = some o := fun b o e => hs'.extBut b o (Nat.ne_of_lt (Heap.lt_size e)) (Heap.get?_push_of_some _ e)
    generalize hgo : ({ cls := .type "generator", data := .fields #[.int s4.gens.size 0, .str "<genexpr>" (s4.toks + 1), .str (X.env.qual ++ "<genexpr>") (s4.toks + 1 + 1)] } : Obj) = go
    have keep5 : ∀ b o, s4.heap.get? b = some o → (h'.push go).get? b = some o := fun b o e => Heap.get?_push_of_some _ (keep' b o e)
    generalize hcenv : genEnv scope (cloFrom X.env.cells scope.names []) s4.heap.objs.size code builtinsNs X.env = cenv
    have hfr := I4.ok.frames
    have hAf : (ArdG X.A elt tg iter ifs scope gpos it cenv).frames = some (cenv :: X.stack) := ardG_frames hfr
    have hrg : Room k (ArdG X.A elt tg iter ifs scope gpos it cenv) := ardG_room hr
    have cL : cenv.locals = s4.heap.objs.size := by rw [← hcenv]; rfl
    have cC : cenv.cells = cloFrom X.env.cells scope.names [] := by rw [← hcenv]; rfl
    have cSc : cenv.scope = scope := by rw [← hcenv]; rfl
    have IG : Inv (gcx X (ArdG X.A elt tg iter ifs scope gpos it cenv) s4 H2 cenv fp) [] (wipe σ (own.map (·.2))) H2
        { s4 with heap := h'.push go, gens := s4.gens.push (.fresh (.compStart (.GeneratorExp elt [⟨tg, iter, ifs, 0⟩] scope gpos) 0 (.ref it) .none cenv)), toks := s4.toks + 1 + 1 + 1 } := by
      have z := gen_start (A := ArdG X.A elt tg iter ifs scope gpos it cenv) (fp := fp) (code := code) (g' := s4.gens.push (.fresh (.compStart (.GeneratorExp elt [⟨tg, iter, ifs, 0⟩] scope gpos) 0 (.ref it) .none cenv))) (h' := h'.push go) (tk := s4.toks + 1 + 1 + 1) I4 ok gs hN f4 (I4.ok.hd hc) (by rw [hcenv]; exact hAf) (hn'.push _) keep5 (I4.bare.push rfl)
      rw [hcenv] at z
      exact z
    generalize hs5 : ({ s4 with heap := h'.push go, gens := s4.gens.push (.fresh (.compStart (.GeneratorExp elt [⟨tg, iter, ifs, 0⟩] scope gpos) 0 (.ref it) .none cenv)), toks := s4.toks + 1 + 1 + 1 } : Shared) = s5 at IG
    have e5h : s5.heap = h'.push go := by rw [← hs5]
    have e5g : s5.gens = s4.gens.push (.fresh (.compStart (.GeneratorExp elt [⟨tg, iter, ifs, 0⟩] scope gpos) 0 (.ref it) .none cenv)) := by rw [← hs5]
    have ha5 : s5.heap.get? h'.objs.size = some go := by rw [e5h]; exact Heap.get?_push_size _ (by rw [← hgo]; rfl)
    have sz5 : s5.heap.objs.size = s4.heap.objs.size + 1 + 1 := by rw [e5h, Heap.size_push, hsz5]
    have hcl : ∀ x cc, cenv.cells.lookup x = some cc → cc < s4.heap.objs.size := fun x cc e => by
      rw [cC] at e
      exact (clo_mem I4 ok e).2.1
    have goc : ∀ v, go.data ≠ .cell v := fun v z => by rw [← hgo] at z; cases z
    have afp : h'.objs.size ∉ fp := fun hm => by
      exact nb5 hsz5 (f4 _ hm).2
    have pg := hg (ArdG X.A elt tg iter ifs scope gpos it cenv) s4 H2 s4.heap.objs.size code (cloFrom X.env.cells scope.names []) fp hrg
    have pt := ht (ArdG X.A elt tg iter ifs scope gpos it cenv) s4 H2 s4.heap.objs.size code (cloFrom X.env.cells scope.names []) fp hrg
    have pe := he (ArdG X.A elt tg iter ifs scope gpos it cenv) s4 H2 s4.heap.objs.size code (cloFrom X.env.cells scope.names []) fp hrg
    rw [hcenv] at pg pt pe
    refine hQ n pz yv Gd (gcx X (ArdG X.A elt tg iter ifs scope gpos it cenv) s4 H2 cenv fp) h'.objs.size go fp tn s4.gens.size s5 hR ⟨?_, rfl, fun h e => ⟨go, _, _, e, by rw [← hgo], by rw [← hgo], by rw [← hgo]⟩, ha5, rfl, rfl, ?_⟩
    · -- ready
      intro S pl s6 epl eg6 eo6 k6 hp6
      have ap : SApart (gcx X (ArdG X.A elt tg iter ifs scope gpos it cenv) s4 H2 cenv fp) S h'.objs.size fp := by
        have big : ∀ b ∈ S, s5.heap.objs.size ≤ b := fun b hb => by
          rw [← epl] at hb
          obtain ⟨p, hp, e⟩ := List.mem_map.mp hb
          rw [← e]
          exact (hp6 p hp).1
        refine ⟨fun b hb => ?_, fun b hb z => ?_, fun b hb x cc e z => ?_, fun b hb z => ?_, fun b hb z => ?_⟩
        · exact nb1 sz5 (big b hb)
        · have z : b = cenv.locals := z
          rw [cL] at z
          have z2 := nb1' sz5 (big b hb)
          rw [z] at z2
          exact Nat.lt_irrefl _ z2
        · exact nb3 sz5 (big b hb) (hcl x cc e) z
        · exact nb4 sz5 (big b hb) hsz5 z
        · exact nb3 sz5 (big b hb) (f4 b z).2 rfl
      refine ⟨ap, ?_⟩
      have I6 : Inv (gcx X (ArdG X.A elt tg iter ifs scope gpos it cenv) s4 H2 cenv fp) [] (wipe σ (own.map (·.2))) H2 s6 := by
        have z := IG.kept (h' := s6.heap) (t' := s6.toks) k6
        obtain ⟨hh6, g6, d6, t6, o6⟩ := s6
        have eg6 : g6 = s5.gens := eg6
        have eo6 : o6 = s5.os := eo6
        subst eg6 eo6
        refine IG.call' (s' := ⟨hh6, s5.gens, d6, t6, s5.os⟩) (ch := []) rfl (Un.kept k6) (IG.hok.kept k6) IG.bare fun b hb => by cases hb
      have I7 : Inv (gcx X (ArdG X.A elt tg iter ifs scope gpos it cenv) s4 H2 cenv fp) ((h'.objs.size, go) :: pl) (wipe σ (own.map (·.2))) H2 s6 := by
        refine I6.pins_of fun p hp => ?_
        have big : s4.heap.objs.size < p.1 ∧ s6.heap.get? p.1 = some p.2 ∧ ∀ v, p.2.data ≠ .cell v := by
          rcases List.mem_cons.mp hp with e | hp
          · rw [e]
            exact ⟨nb6 hsz5, k6 _ _ ha5, goc⟩
          · obtain ⟨z1, z2, z3⟩ := hp6 p hp
            exact ⟨nb1' sz5 z1, z2, z3⟩
        obtain ⟨z1, z2, z3⟩ := big
        refine ⟨z2, I4.hok.fresh (Nat.le_of_lt z1), ?_, ?_, z3⟩
        · show p.1 ≠ cenv.locals
          rw [cL]
          exact fun z => Nat.lt_irrefl _ (by rw [z] at z1; exact z1)
        · intro hb
          obtain ⟨_, o, ho, _⟩ := Heap.FunFrames.mem I4.stack hb
          exact Nat.lt_irrefl _ (Nat.lt_trans z1 (Heap.lt_size ho))
      have hfree : ∀ b ∈ fp, H2 b = none := fun b hb => (f4 b hb).1.1
      have st6 : tn 0 s6.heap := T.keep _ _ _ st4 fun b hb o e => k6 b o (by rw [e5h]; exact keep5 b o e)
      have gst : GSt (gcx X (ArdG X.A elt tg iter ifs scope gpos it cenv) s4 H2 cenv fp) S h'.objs.size go fp tn Gd (wipe σ (own.map (·.2))) 0 s6 := ⟨H2, pl, epl, I7, st6, hfree, gd0⟩
      have gz : s4.gens.size < s6.gens.size := by rw [eg6, e5g, Array.size_push]; exact Nat.lt_succ_self _
      refine ⟨⟨0, gst.ed⟩, gz, .fresh (.compStart (.GeneratorExp elt [⟨tg, iter, ifs, 0⟩] scope gpos) 0 (.ref it) .none cenv), by rw [eg6, e5g]; exact Array.getElem?_push_size .., fun s'' k => ⟨rfl, ?_⟩⟩
      rw [Nat.sub_zero]
      exact seg_gstart (A := X.A.in1.in1) (Xg := gcx X (ArdG X.A elt tg iter ifs scope gpos it cenv) s4 H2 cenv fp) rfl hc (by show cenv.scope.isCoroutine = false; rw [cSc]; exact gs.co) rfl rfl rfl T ap afp (fun b hb => ap.fp b hb) pg pt pe TO s'' (Nat.lt_of_lt_of_le gz k.gsz) (gst.kp T rfl ap k)
    · -- back
      intro S s' i hed
      obtain ⟨H', pl, epl, I', gd⟩ := hed
      refine ⟨H', ?_, gd⟩
      refine I4.call' (ch := fp) ?_ I'.base I'.hok I'.bare fun b hb => ⟨(f4 b hb).1.2.2.2.1, (f4 b hb).1.2.1, (f4 b hb).1.2.2.2.2.1, (f4 b hb).1.2.2.2.2.2⟩
      exact I'.os
  cases hf : codeAmong gpos ps.toList with
  | none =>
    refine wpAny_genexprCodeX hcode (cd.code hPs ht0) (cd.tab hPs) hf fun c' h' tk hx hge hlt hco' _ htab' _ => ?_
    obtain ⟨o1, vs, f1, tf, fl, tg, inF, tx, tt, op, _, _, _, _, _, _, _, _, _, htr, _⟩ := hco'
    exact cont _ h' tk _ hx (Nat.le_trans hge (Nat.le_of_lt hlt)) htab'.2 ⟨_, rfl⟩ htr
  | some cv =>
    refine wpAny_genexprCode_hit hcode (cd.code hPs ht0) hf ?_
    exact cont cv s2.heap s2.toks ps (Heap.ExtBut.refl _ _) (Nat.le_refl _) hPs ⟨#[], by simp⟩ ht0
end
end GxI
set_option Elab.async false
set_option linter.all false
set_option maxRecDepth 100000
set_option maxHeartbeats 2000000
namespace GxI
open PySem PySem.Spec PyProof.Rows L2
section
variable {X : Cx} {pins : List (Addr × Obj)} {σ : L2.St} {H : Hp} {s : Shared}
def rAny (Q : VK) : Nat → (Nat → Bool) → (Nat → V) → (Nat → Hp → Prop) → Prop := fun n pz yv Gd => ∃ pb : Nat → Bool, yv = (fun i => .bl (pb i)) ∧ ∀ i H', Gd i H' → Q (.bl ((passing pz n 0).any pb)) H'
def rAll (Q : VK) : Nat → (Nat → Bool) → (Nat → V) → (Nat → Hp → Prop) → Prop := fun n pz yv Gd => ∃ pb : Nat → Bool, yv = (fun i => .bl (pb i)) ∧ ∀ i H', Gd i H' → Q (.bl ((passing pz n 0).all pb)) H'
def rSum (Q : VK) : Nat → (Nat → Bool) → (Nat → V) → (Nat → Hp → Prop) → Prop := fun n pz yv Gd => ∃ val : Nat → Int, yv = (fun i => .int (val i)) ∧ ∀ i H', Gd i H' → Q (.int ((passing pz n 0).map val).sum) H'
theorem run_any {Xg : Cx} {a : Addr} {go : Obj} {fp : List Addr} {tn : Nat → Heap → Prop} {Gd : Nat → Hp → Prop} {n g : Nat} {pz : Nat → Bool} {yv : Nat → V} {vs : List Nat} {s5 : Shared} {Q : VK} {k : Nat}
    (hr : Room k X.A) (R : rAny Q n pz yv Gd) (Y : ReadyG X pins σ vs Xg a go fp tn Gd n g pz yv s5) : wpAny (model X.prog X.w) X.A (call (.builtin "any") [.ref a]) (EP X pins σ Q) X.xe s5 := by
  obtain ⟨pb, rfl, hQ⟩ := R
  obtain ⟨made, pn, isg, here, ep, ew, back⟩ := Y
  obtain ⟨ap, hat⟩ := made [] [] s5 rfl rfl rfl (fun _ _ e => e) (fun p hp => by cases hp)
  refine call_function_tree F.kind_any F.plain_any F.entry_any (F.args_any1 _) ?_
  unfold Builtin.«any»
  refine wpAny_bind (m := oneArg "any" _) (wpAny_pure ?_)
  refine wpAny_bind (wpAny_pyIter_gen (isg _ here) ?_)
  have hroom : X.A.in1.depth < recursionLimit := hr.depth
  have z := any_loopG (A := X.A) (R := fun r s' => match r with | .ok (.ret v) => EP X pins σ Q v s' | .ok _ => False | .error e => X.xe e s') pn ap isg hr.hd hroom _ 0 s5 rfl (Nat.zero_le _) hat fun s' i c => by
    obtain ⟨H', I', gd⟩ := back _ _ _ c
    rw [List.drop_zero]
    exact ⟨.bl _, H', I', rfl, hQ i H' gd⟩
  rw [ep, ew] at z
  exact wpAny_pure ⟨plainId_quiet F.plain_any_loop _, z⟩
theorem run_all {Xg : Cx} {a : Addr} {go : Obj} {fp : List Addr} {tn : Nat → Heap → Prop} {Gd : Nat → Hp → Prop} {n g : Nat} {pz : Nat → Bool} {yv : Nat → V} {vs : List Nat} {s5 : Shared} {Q : VK} {k : Nat}
    (hr : Room k X.A) (R : rAll Q n pz yv Gd) (Y : ReadyG X pins σ vs Xg a go fp tn Gd n g pz yv s5) : wpAny (model X.prog X.w) X.A (call (.builtin "all") [.ref a]) (EP X pins σ Q) X.xe s5 := by
  obtain ⟨pb, rfl, hQ⟩ := R
  obtain ⟨made, pn, isg, here, ep, ew, back⟩ := Y
  obtain ⟨ap, hat⟩ := made [] [] s5 rfl rfl rfl (fun _ _ e => e) (fun p hp => by cases hp)
  refine call_function_tree F.kind_all F.plain_all F.entry_all (F.args_all1 _) ?_
  unfold Builtin.«all»
  refine wpAny_bind (m := oneArg "all" _) (wpAny_pure ?_)
  refine wpAny_bind (wpAny_pyIter_gen (isg _ here) ?_)
  have hroom : X.A.in1.depth < recursionLimit := hr.depth
  have z := all_loopG (A := X.A) (R := fun r s' => match r with | .ok (.ret v) => EP X pins σ Q v s' | .ok _ => False | .error e => X.xe e s') pn ap isg hr.hd hroom _ 0 s5 rfl (Nat.zero_le _) hat fun s' i c => by
    obtain ⟨H', I', gd⟩ := back _ _ _ c
    rw [List.drop_zero]
    exact ⟨.bl _, H', I', rfl, hQ i H' gd⟩
  rw [ep, ew] at z
  exact wpAny_pure ⟨plainId_quiet F.plain_all_loop _, z⟩
theorem run_sum {Xg : Cx} {a : Addr} {go : Obj} {fp : List Addr} {tn : Nat → Heap → Prop} {Gd : Nat → Hp → Prop} {n g : Nat} {pz : Nat → Bool} {yv : Nat → V} {vs : List Nat} {s5 : Shared} {Q : VK} {k : Nat}
    (hr : Room k X.A) (R : rSum Q n pz yv Gd) (Y : ReadyG X pins σ vs Xg a go fp tn Gd n g pz yv s5) : wpAny (model X.prog X.w) X.A (call (.builtin "sum") [.ref a]) (EP X pins σ Q) X.xe s5 := by
  obtain ⟨val, rfl, hQ⟩ := R
  obtain ⟨made, pn, isg, here, ep, ew, back⟩ := Y
  refine call_function_tree F.kind_sum F.plain_sum F.entry_sum (F.args_sum1 _) ?_
  unfold Builtin.«sum»
  simp only [List.length_cons, List.length_nil]
  rw [if_neg (by decide)]
  refine wpAny_bind (wpAny_of_eq (show Builtin.Builtins.bindParams "sum" ["start"] 0 { } = pure [none] from rfl) ?_)
  refine wpAny_bind (wpAny_pyIter_gen (isg _ here) ?_)
  refine wpAny_bind (wpAny_mkInt ?_)
  refine wpAny_bind (wpAny_pure ?_)
  simp only [List.forIn_cons, List.forIn_nil]
  refine wpAny_bind (wpAny_bind (wpAny_bind (wpAny_isInstance (T := "int") (b := false) (typeIs_int _ _ _) PySem.sub_int_str ?_)))
  simp only [Bool.false_eq_true, if_false]
  refine wpAny_pure (wpAny_bind (wpAny_bind (wpAny_isInstance (T := "int") (b := false) (typeIs_int _ _ _) sub_int_bytes ?_)))
  simp only [Bool.false_eq_true, if_false]
  refine wpAny_pure (wpAny_bind (wpAny_bind (wpAny_isInstance (T := "int") (b := false) (typeIs_int _ _ _) sub_int_bytearray ?_)))
  simp only [Bool.false_eq_true, if_false]
  refine wpAny_pure (wpAny_pure ?_)
  refine wpAny_bind (wpAny_newObj_type ?_)
  generalize hs6 : ({ s5 with heap := s5.heap.push { cls := .type "list", data := .seq #[.int 0 s5.toks] }, toks := s5.toks + 1 } : Shared) = s6
  have e6 : s6.heap = s5.heap.push { cls := .type "list", data := .seq #[.int 0 s5.toks] } := by rw [← hs6]
  have hS : s6.heap.get? s5.heap.objs.size = some { cls := .type "list", dict := none, data := .seq #[.int 0 s5.toks] 0, slots := #[] } := by rw [e6]; exact Heap.get?_push_size _ rfl
  obtain ⟨ap, hat⟩ := made [s5.heap.objs.size] [(s5.heap.objs.size, _)] s6 rfl (by rw [← hs6]) (by rw [← hs6]) (fun _ _ e => by rw [e6]; exact Heap.get?_push_of_some _ e) (fun p hp => by
    rw [List.mem_singleton.mp hp]
    exact ⟨Nat.le_refl _, hS, fun v z => by cases z⟩)
  have hroom : X.A.in1.depth < recursionLimit := hr.depth
  have z := sum_loopG (A := X.A) (R := fun r s' => match r with | .ok (.ret v) => EP X pins σ Q v s' | .ok _ => False | .error e => X.xe e s') pn ap isg hr.hd hroom _ 0 s6 s5.toks 0 0 (.inl rfl) rfl (Nat.zero_le _) hat hS fun s' i t' c => by
    obtain ⟨H', I', gd⟩ := back _ _ _ c
    exact ⟨.int _, H', I', ⟨t', rfl⟩, hQ i H' gd⟩
  rw [ep, ew] at z
  exact wpAny_pure ⟨plainId_quiet F.plain_sum_loop _, z⟩
/-- the three built-ins -/
structure GxB (X : Cx) (f : Str) (id : String) (r : VK → Nat → (Nat → Bool) → (Nat → V) → (Nat → Hp → Prop) → Prop) : Prop where
  boot : bootBuiltins f = some (.builtin id)
  run : ∀ {pins : List (Addr × Obj)} {σ : L2.St} {Xg : Cx} {a : Addr} {go : Obj} {fp : List Addr} {tn : Nat → Heap → Prop} {Gd : Nat → Hp → Prop} {n g : Nat} {pz : Nat → Bool} {yv : Nat → V} {vs : List Nat} {s5 : Shared} {Q : VK},
    r Q n pz yv Gd → ReadyG X pins σ vs Xg a go fp tn Gd n g pz yv s5 → wpAny (model X.prog X.w) X.A (call (.builtin id) [.ref a]) (EP X pins σ Q) X.xe s5
theorem gx_any {k : Nat} (hr : Room k X.A) : GxB X "any" "any" rAny := ⟨boot_any, fun R Y => run_any hr R Y⟩
theorem gx_all {k : Nat} (hr : Room k X.A) : GxB X "all" "all" rAll := ⟨by decide +kernel, fun R Y => run_all hr R Y⟩
theorem gx_sum {k : Nat} (hr : Room k X.A) : GxB X "sum" "sum" rSum := ⟨by decide +kernel, fun R Y => run_sum hr R Y⟩
def tGxC (Gc : Hp → Prop) (wi : TI) (g : TG) (tt : TT) (te : TE) (vs : List Nat) (P : Addr) (r : VK → Nat → (Nat → Bool) → (Nat → V) → (Nat → Hp → Prop) → Prop) : TE := fun σ H Q => tGx Gc wi g tt te vs P (r Q) σ H
/-- any(elt for tg in iter if ..), all, sum -/
theorem pe_gx {Gc : Hp → Prop} {k : Nat} {c P : Addr} {f : Str} {id : String} {r : VK → Nat → (Nat → Bool) → (Nat → V) → (Nat → Hp → Prop) → Prop} {elt tg iter : Expr} {ifs : List Expr} {scope : Scope} {own : List (Str × Nat)} {gpos p pos : Pos} {wi : TI} {g : TG} {tt : TT} {te : TE}
    (B : GxB X f id r) (hgl : Gl X f) (hm : X.mg f = none) (hr : Room (k + 1) X.A) (hc : X.calm = true) (hN : X.N.Nodup) (TB : TabX X c P Gc) (hcode : X.env.code = .ref c) (gs : GxS X.env scope) (ok : BlkOk X.N X.env.scope scope own)
    (hi : PI X tg iter wi)
    (hg : ∀ (A : Around) (s : Shared) (H : Hp) (C : Addr) (cd : Value) (cl : List (Str × Addr)) (fp : List Addr), Room k A → PG (gcx X A s H (genEnv scope cl C cd builtinsNs X.env) fp) tg g)
    (ht : ∀ (A : Around) (s : Shared) (H : Hp) (C : Addr) (cd : Value) (cl : List (Str × Addr)) (fp : List Addr), Room k A → PTs (gcx X A s H (genEnv scope cl C cd builtinsNs X.env) fp) ifs tt)
    (he : ∀ (A : Around) (s : Shared) (H : Hp) (C : Addr) (cd : Value) (cl : List (Str × Addr)) (fp : List Addr), Room k A → PE (gcx X A s H (genEnv scope cl C cd builtinsNs X.env) fp) elt te)
    (hs : ∀ v, genFold iter X.env v = pure v := by intro _; rfl) (hn : f ≠ "__name__" := by decide) (hd : (f == ("__debug__" : Str)) = false := by decide)
    (hst : starEach [.GeneratorExp elt [⟨tg, iter, ifs, 0⟩] scope gpos] X.env = (false, eval (.GeneratorExp elt [⟨tg, iter, ifs, 0⟩] scope gpos) X.env) :: starEach [] X.env := by rfl) :
    PE X (.Call (.Name f p) [.GeneratorExp elt [⟨tg, iter, ifs, 0⟩] scope gpos] [] pos) (tGxC Gc wi g tt te (own.map (·.2)) P r) := by
  refine ⟨fun pins s σ H Q I h => ?_⟩
  refine wpAny_Call_Name_kw (ld_blt I hgl hm B.boot ?_ hn hd)
  refine PyProof.Rows.callWith_builtin1 ?_ hst (by rfl)
  rw [hst]
  show wpAny _ _ (spliced ((false, eval (.GeneratorExp elt [⟨tg, iter, ifs, 0⟩] scope gpos) X.env) :: backTo pos (starEach [] X.env))) _ _ s
  refine Calls.spliced_cons (gx_eval (k := k) hr hc hN TB hcode gs ok hi hg ht he hs I h fun n pz yv Gd Xg a go fp tn g s5 R Y => ?_)
  refine Calls.spliced_nil ?_
  exact B.run R Y
end
end GxI
set_option Elab.async false
set_option linter.all false
set_option maxRecDepth 100000
set_option maxHeartbeats 2000000
namespace PL
open PySem PySem.Spec PyProof.Rows L2
mutual
def tf : NestedKey → Bool
  | .none => false
  | .num _ => true
  | .text _ => false
  | .tup ks => tfs ks
def tfs : List NestedKey → Bool
  | [] => true
  | k :: ks => tf k && tfs ks
end
mutual
theorem tf_hash (w w' : World) : ∀ k : NestedKey, tf k = true → k.hash w = k.hash w'
  | .none, _ => rfl
  | .num _, _ => rfl
  | .text _, h => by simp [tf] at h
  | .tup ks, h => by
    rw [NestedKey.hash, NestedKey.hash, tfs_hash w w' ks (by rw [tf] at h; exact h)]
theorem tfs_hash (w w' : World) : ∀ ks : List NestedKey, tfs ks = true → NestedKey.hashes w ks = NestedKey.hashes w' ks
  | [], _ => rfl
  | k :: ks, h => by
    rw [tfs, Bool.and_eq_true] at h
    rw [NestedKey.hashes, NestedKey.hashes, tf_hash w w' k h.1, tfs_hash w w' ks h.2]
end
abbrev NE := NestedKey × Addr × V
/-- one entry, as the machine has it -/
def NEr (p : NE) (q : NestedKey × Addr × Value) : Prop := p.1 = q.1 ∧ p.2.1 = q.2.1 ∧ RelV p.2.2 q.2.2
def NRaw (a : Addr) (vs : List NE) : Heap → Prop := fun h => vs.length ≤ sizeLine ∧ (a == sysModules) = false ∧ (∀ p ∈ vs, tf p.1 = true ∧ p.1.depth ≤ 8) ∧
  ∃ xs : List (NestedKey × Addr × Value), Paired NEr vs xs ∧ ∃ o es ep, h.get? a = some o ∧ o.ExactDict ∧ o.data = .dict es ep ∧ (∀ (P : Program) (w : World), es.toList = xs.map (entryOfKey (nestedKind P w))) ∧ (xs.map (·.1)).Nodup
def NO (a : Addr) (vs : List NE) : HO := .ext (NRaw a vs)
section
variable {P : Program} {w : World} {H : Hp} {h h' : Heap} {a : Addr} {vs : List NE}
theorem NRaw.stay (x : NRaw a vs h) (k : ∀ o, h.get? a = some o → h'.get? a = some o) : NRaw a vs h' := by
  obtain ⟨h1, h2, h3, xs, h4, o, es, ep, h5, h6⟩ := x
  exact ⟨h1, h2, h3, xs, h4, o, es, ep, k _ h5, h6⟩
theorem NRaw.ok (x : NRaw a vs h) : ObjOk P w H h a (NO a vs) := by
  have x' := x
  obtain ⟨h1, h2, h3, xs, h4, o, es, ep, h5, h6⟩ := x'
  exact ⟨x, ⟨o, h5⟩, fun h1 h2 y k => NRaw.stay y k⟩
mutual
inductive HK (H : Hp) : NestedKey → V → Prop
  | none : HK H .none .non
  | num (i : Int) : HK H (.num i) (.int i)
  | text (x : Str) : HK H (.text x) (.str x)
  | tup {b : Addr} {ks : List NestedKey} {xs : List V} : Rd H b (.tup xs) → HKs H ks xs → HK H (.tup ks) (.ref b)
inductive HKs (H : Hp) : List NestedKey → List V → Prop
  | nil : HKs H [] []
  | cons {k : NestedKey} {ks : List NestedKey} {x : V} {xs : List V} : HK H k x → HKs H ks xs → HKs H (k :: ks) (x :: xs)
end
mutual
theorem HK.is (ok : HOk P w H h) : ∀ {k : NestedKey} {x : V} {u : Value}, HK H k x → RelV x u → NestedIs h k u
  | _, _, _, .none, r => by obtain rfl := r; exact .none
  | _, _, _, .num i, r => by obtain ⟨t, rfl⟩ := r; exact .int i t
  | _, _, _, .text x, r => by obtain ⟨t, rfl⟩ := r; exact .text x t
  | _, _, _, .tup h1 h2, r => by
    obtain rfl := r
    obtain ⟨_, its, rv, o, e1, e2, n, e3⟩ := (show ObjOk P w H h _ (.tup _) from rd_of ok h1)
    exact .tup e1 e2 e3 (HKs.is ok h2 (by simpa using rv))
theorem HKs.is (ok : HOk P w H h) : ∀ {ks : List NestedKey} {xs : List V} {us : List Value}, HKs H ks xs → Vals xs us → NestedAll h ks us
  | _, _, _, .nil, .nil => .nil
  | _, _, _, .cons h1 h2, .cons r1 r2 => .cons (HK.is ok h1 r1) (HKs.is ok h2 r2)
end
/-- a dict of such keys, its keys there -/
def NDict (H : Hp) (a : Addr) (vs : List NE) : Prop := Rd H a (NO a vs) ∧ ∀ p ∈ vs, HK H p.1 (.ref p.2.1)
theorem nd_of (ok : HOk P w H h) (e : NDict H a vs) : vs.length ≤ sizeLine ∧ (a == sysModules) = false ∧ (∀ p ∈ vs, tf p.1 = true ∧ p.1.depth ≤ 8) ∧ ∃ xs, Paired NEr vs xs ∧ h.DictOfH (nestedKind P w) a xs := by
  obtain ⟨⟨h1, h2, h3, xs, h4, o, es, ep, h5, h6, h7, h8, h9⟩, _⟩ := (show ObjOk P w H h a (.ext _) from rd_of ok e.1)
  refine ⟨h1, h2, h3, xs, h4, o, es, ep, h5, h6, h7, h8 P w, fun x hx => ?_, h9⟩
  have all : ∀ {l : List NE} {m : List (NestedKey × Addr × Value)}, Paired NEr l m → ∀ x ∈ m, ∃ p ∈ l, NEr p x := by
    intro l m q
    induction q with
    | nil => intro x hx; cases hx
    | cons r _ ih =>
      intro x hx
      rcases List.mem_cons.mp hx with rfl | hx
      · exact ⟨_, List.mem_cons_self, r⟩
      · obtain ⟨p, hp, hr⟩ := ih x hx
        exact ⟨p, List.mem_cons_of_mem _ hp, hr⟩
  obtain ⟨p, hp, r1, r2, r3⟩ := all h4 x hx
  have := HK.is ok (e.2 p hp) (u := .ref x.2.1) (by rw [r2]; rfl)
  rw [r1] at this
  exact ⟨this, by rw [← r1]; exact (h3 p hp).2⟩
/-- as it is made anew -/
theorem NRaw.of {xs : List (NestedKey × Addr × Value)} (z : vs.length ≤ sizeLine) (hs : (a == sysModules) = false) (ht : ∀ p ∈ vs, tf p.1 = true ∧ p.1.depth ≤ 8) (r : Paired NEr vs xs) (d : h.DictOfH (nestedKind P w) a xs) : NRaw a vs h := by
  obtain ⟨o, es, ep, h5, h6, h7, h8, h9, h10⟩ := d
  refine ⟨z, hs, ht, xs, r, o, es, ep, h5, h6, h7, fun P' w' => ?_, h10⟩
  rw [h8]
  refine List.map_congr_left fun x hx => ?_
  have all : ∀ {l : List NE} {m : List (NestedKey × Addr × Value)}, Paired NEr l m → ∀ x ∈ m, ∃ p ∈ l, NEr p x := by
    intro l m q
    induction q with
    | nil => intro x hx; cases hx
    | cons r _ ih =>
      intro x hx
      rcases List.mem_cons.mp hx with rfl | hx
      · exact ⟨_, List.mem_cons_self, r⟩
      · obtain ⟨p, hp, hr⟩ := ih x hx
        exact ⟨p, List.mem_cons_of_mem _ hp, hr⟩
  obtain ⟨p, hp, r1, _⟩ := all r x hx
  show (⟨x.1.hash w, _, _⟩ : DictEntry) = ⟨x.1.hash w', _, _⟩
  rw [tf_hash w w' x.1 (by rw [← r1]; exact (ht p hp).1)]
/-- what a dict holds -/
def valN (vs : List NE) (k : NestedKey) : Option V := (vs.find? fun p => decide (p.1 = k)).map (·.2.2)
def putN (vs : List NE) (k : NestedKey) (b : Addr) (v : V) : List NE := if (valN vs k).isSome then vs.map (fun p => if p.1 = k then (p.1, p.2.1, v) else p) else vs ++ [(k, b, v)]
theorem at_valN : ∀ {vs : List NE} {xs : List (NestedKey × Addr × Value)} (k : NestedKey), Paired NEr vs xs → match valN vs k with
    | some v => ∃ p, atKey xs k = some p ∧ RelV v p.2
    | none => atKey xs k = none
  | _, _, k, .nil => rfl
  | p :: vs, q :: xs, k, .cons r t => by
    have ih := at_valN k t
    by_cases z : p.1 = k
    · have e1 : valN (p :: vs) k = some p.2.2 := by simp [valN, List.find?_cons, z]
      have e2 : atKey (q :: xs) k = some q.2 := by simp [atKey, List.find?_cons, r.1.symm.trans z]
      rw [e1]
      exact ⟨_, e2, r.2.2⟩
    · have e1 : valN (p :: vs) k = valN vs k := by simp [valN, List.find?_cons, z]
      have e2 : atKey (q :: xs) k = atKey xs k := by
        have : ¬ q.1 = k := fun y => z (r.1.trans y)
        simp [atKey, List.find?_cons, this]
      rw [e1, e2]
      exact ih
theorem put_valN {k : NestedKey} {b : Addr} {v : V} {u : Value} {xs : List (NestedKey × Addr × Value)} (rv : RelV v u) (t : Paired NEr vs xs) : Paired NEr (putN vs k b v) (storedH xs k b u) := by
  have e : (valN vs k).isSome = (atKey xs k).isSome := by
    have := at_valN k t
    cases c : valN vs k with
    | none => rw [c] at this; rw [this]; rfl
    | some y => rw [c] at this; obtain ⟨p, h, _⟩ := this; rw [h]; rfl
  unfold putN storedH
  rw [e]
  split
  · rename_i c
    clear c e
    induction t with
    | nil => exact .nil
    | @cons p q vs xs r t ih =>
      refine .cons ?_ ih
      · unfold putAt
        dsimp only
        by_cases z : p.1 = k
        · rw [if_pos z, if_pos (r.1.symm.trans z)]
          exact ⟨r.1, r.2.1, rv⟩
        · rw [if_neg z, if_neg fun y => z (r.1.trans y)]
          exact r
  · have app : ∀ {l : List NE} {m : List (NestedKey × Addr × Value)}, Paired NEr l m → Paired NEr (l ++ [(k, b, v)]) (m ++ [(k, b, u)]) := by
      intro l m q
      induction q with
      | nil => exact .cons ⟨rfl, rfl, rv⟩ .nil
      | cons r _ ih => exact .cons r ih
    exact app t
theorem putN_mem {k : NestedKey} {b : Addr} {v : V} {p : NE} (h : p ∈ putN vs k b v) : (∃ p' ∈ vs, p'.1 = p.1 ∧ p'.2.1 = p.2.1) ∨ (p.1 = k ∧ p.2.1 = b) := by
  unfold putN at h
  split at h
  · obtain ⟨p', hp, rfl⟩ := List.mem_map.mp h
    refine .inl ⟨p', hp, ?_⟩
    split <;> exact ⟨rfl, rfl⟩
  · rcases List.mem_append.mp h with h | h
    · exact .inl ⟨p, h, rfl, rfl⟩
    · rw [List.mem_singleton.mp h]; exact .inr ⟨rfl, rfl⟩
theorem putN_len (k : NestedKey) (b : Addr) (v : V) : (putN vs k b v).length ≤ vs.length + 1 := by
  unfold putN
  split
  · rw [List.length_map]; omega
  · rw [List.length_append]; exact Nat.le_refl _
end
end PL
set_option Elab.async false
set_option linter.all false
set_option maxRecDepth 100000
set_option maxHeartbeats 2000000
namespace PL
open PySem PySem.Spec PyProof.Rows L2
open LamX (ExtN)
def rgF (r t d u : Addr) : List (Str × V) := [("rooms", .ref r), ("things", .ref t), ("deeds", .ref d), ("undone", .ref u)]
def ObF (K : PySem.W.Frag) (H : Hp) (v : V) : PyData → Prop
  | .int a => ∃ n : Addr, a = n ∧ v = .ref n
  | .bool _ => ∃ b dx C r t d u, v = .ref b ∧ PySem.W.nsIn K mainGlobals "Register" = some (some (.ref C)) ∧ H b = some (.ins C dx (rgF r t d u)) ∧ H t = some (.dT [])
  | _ => False
theorem ObF.imp {K : PySem.W.Frag} {H H' : Hp} {v : V} {d : PyData} (h : ObF K H v d) (e : ∀ b o, H b = some o → ((∃ C dx fs, o = .ins C dx fs) ∨ o = .dT []) → H' b = some o) : ObF K H' v d := by
  cases d with
  | int a => exact h
  | bool _ =>
    obtain ⟨b, dx, C, r, t, d, u, h1, h2, h3, h4⟩ := h
    exact ⟨b, dx, C, r, t, d, u, h1, h2, e _ _ h3 (.inl ⟨_, _, _, rfl⟩), e _ _ h4 (.inr rfl)⟩
  | _ => exact h
theorem ObF.ext {K : PySem.W.Frag} {H H' : Hp} {v : V} {d : PyData} (h : ObF K H v d) (e : ExtN H H') : ObF K H' v d :=
  h.imp fun b o hb z => e b o hb fun ps y => by
    rcases z with ⟨_, _, _, z⟩ | z <;> rw [z] at y <;> cases y
theorem ObF.ref {K : PySem.W.Frag} {H : Hp} {v : V} {d : PyData} (h : ObF K H v d) : ∃ a, v = .ref a := by
  cases d with
  | int a => obtain ⟨n, _, h⟩ := h; exact ⟨n, h⟩
  | bool _ => obtain ⟨b, dx, C, r, t, d, u, h1, _⟩ := h; exact ⟨b, h1⟩
  | _ => exact h.elim
end PL
set_option Elab.async false
set_option linter.all false
set_option maxRecDepth 100000
set_option maxHeartbeats 2000000
namespace PL
open PySem PySem.Spec PyProof.Rows L2
open LamX (ExtN Tabs TabS)
def keyD : Key → PyData
  | .inl i => .int i
  | .inr x => .str x
/-- a row that is no key -/
def NK (ds : List PyData) : Prop := ds = [] ∨ ∃ d ∈ ds, ∀ k : Key, d ≠ keyD k
mutual
inductive Da (K : PySem.W.Frag) (H : Hp) : V → PyData → Prop
  | non : Da K H .non .none
  | bl (b : Bool) : Da K H (.bl b) (.bool b)
  | int (i : Int) : Da K H (.int i) (.int i)
  | str (x : Str) : Da K H (.str x) (.str x)
  | lst {a : Addr} {xs : List V} {ds : List PyData} : H a = some (.lst xs) → DaAll K H xs ds → Da K H (.ref a) (.list ds)
  | tup {a : Addr} {xs : List V} {ds : List PyData} : H a = some (.tup xs) → DaAll K H xs ds → Da K H (.ref a) (.tuple ds)
  | ftup {a : Addr} {ob : Obj} {xs : List V} {ds : List PyData} : H a = some (.frz ob (.tup xs)) → ob.dict = none → NK ds → DaAll K H xs ds → Da K H (.ref a) (.tuple ds)
  | dk {a : Addr} {kvs : List (Key × V)} {ds : List PyData} : H a = some (.dK kvs) → DaAll K H (kvs.map (·.2)) ds → Da K H (.ref a) (.dict ((kvs.map fun p => keyD p.1).zip ds))
  | dt {a : Addr} {kvs : List (List Key × V)} {ds : List PyData} : H a = some (.dT kvs) → kvs ≠ [] → DaAll K H (kvs.map (·.2)) ds → Da K H (.ref a) (.dict ((kvs.map fun p => .tuple (p.1.map keyD)).zip ds))
  | dte {a : Addr} : H a = some (.dT []) → Da K H (.ref a) (.dict [(.none, .none)])
  | ob {v : V} {d : PyData} : ObF K H v d → Da K H v (.dict [(.bool true, d)])
inductive DaAll (K : PySem.W.Frag) (H : Hp) : List V → List PyData → Prop
  | nil : DaAll K H [] []
  | cons {v : V} {vs : List V} {d : PyData} {ds : List PyData} : Da K H v d → DaAll K H vs ds → DaAll K H (v :: vs) (d :: ds)
end
section
variable {K : PySem.W.Frag} {H H' : Hp}
theorem rd_ext (e : ExtN H H') {a : Addr} {o : HO} (ho : ∀ ps, o ≠ .tbl ps) (h : Rd H a o) : Rd H' a o := by
  rcases h with h | ⟨ob, h⟩
  · exact .inl (e _ _ h ho)
  · exact .inr ⟨ob, e _ _ h fun ps z => by cases z⟩
theorem sqL_ext (e : ExtN H H') {a : Addr} {xs : List V} (h : SqL K H a xs) : SqL K H' a xs := by
  rcases h with h | h
  · exact .inl (rd_ext e (fun ps z => by cases z) h)
  · exact .inr h
theorem sqT_ext (e : ExtN H H') {a : Addr} {xs : List V} (h : SqT K H a xs) : SqT K H' a xs := by
  rcases h with h | h
  · exact .inl (rd_ext e (fun ps z => by cases z) h)
  · exact .inr h
mutual
theorem Da.ext (e : ExtN H H') : ∀ {v : V} {d : PyData}, Da K H v d → Da K H' v d
  | _, _, .non => .non
  | _, _, .bl b => .bl b
  | _, _, .int i => .int i
  | _, _, .str x => .str x
  | _, _, .lst h r => .lst (e _ _ h fun ps z => by cases z) (DaAll.ext e r)
  | _, _, .tup h r => .tup (e _ _ h fun ps z => by cases z) (DaAll.ext e r)
  | _, _, .ftup h q n r => .ftup (e _ _ h fun ps z => by cases z) q n (DaAll.ext e r)
  | _, _, .dk h r => .dk (e _ _ h fun ps z => by cases z) (DaAll.ext e r)
  | _, _, .dt h n r => .dt (e _ _ h fun ps z => by cases z) n (DaAll.ext e r)
  | _, _, .dte h => .dte (e _ _ h fun ps z => by cases z)
  | _, _, .ob h => .ob (h.ext e)
theorem DaAll.ext (e : ExtN H H') : ∀ {vs : List V} {ds : List PyData}, DaAll K H vs ds → DaAll K H' vs ds
  | _, _, .nil => .nil
  | _, _, .cons h r => .cons (Da.ext e h) (DaAll.ext e r)
end
theorem DaAll.length : ∀ {vs : List V} {ds : List PyData}, DaAll K H vs ds → vs.length = ds.length
  | _, _, .nil => rfl
  | _, _, .cons _ r => congrArg (· + 1) (DaAll.length r)
theorem DaAll.get : ∀ {vs : List V} {ds : List PyData} {i : Nat} {v : V}, DaAll K H vs ds → vs[i]? = some v → ∃ d, ds[i]? = some d ∧ Da K H v d
  | _, _, _, _, .nil, e => by simp at e
  | _, _, 0, _, .cons h _, e => by simp at e; subst e; exact ⟨_, rfl, h⟩
  | _, _, i + 1, _, .cons _ r, e => by
    obtain ⟨d, h1, h2⟩ := DaAll.get (i := i) r (by simpa using e)
    exact ⟨d, by simpa using h1, h2⟩
theorem DaAll.getD : ∀ {vs : List V} {ds : List PyData} {i : Nat} {d : PyData}, DaAll K H vs ds → ds[i]? = some d → ∃ v, vs[i]? = some v ∧ Da K H v d
  | _, _, _, _, .nil, e => by simp at e
  | _, _, 0, _, .cons h _, e => by simp at e; subst e; exact ⟨_, rfl, h⟩
  | _, _, i + 1, _, .cons _ r, e => by
    obtain ⟨d, h1, h2⟩ := DaAll.getD (i := i) r (by simpa using e)
    exact ⟨d, by simpa using h1, h2⟩
theorem DaAll.append : ∀ {vs ws : List V} {ds es : List PyData}, DaAll K H vs ds → DaAll K H ws es → DaAll K H (vs ++ ws) (ds ++ es)
  | _, _, _, _, .nil, s => s
  | _, _, _, _, .cons h r, s => .cons h (DaAll.append r s)
theorem DaAll.take : ∀ {vs : List V} {ds : List PyData} (n : Nat), DaAll K H vs ds → DaAll K H (vs.take n) (ds.take n)
  | _, _, 0, _ => .nil
  | _, _, _ + 1, .nil => .nil
  | _, _, n + 1, .cons h r => .cons h (DaAll.take n r)
theorem DaAll.drop : ∀ {vs : List V} {ds : List PyData} (n : Nat), DaAll K H vs ds → DaAll K H (vs.drop n) (ds.drop n)
  | _, _, 0, r => r
  | _, _, _ + 1, .nil => .nil
  | _, _, n + 1, .cons _ r => DaAll.drop n r
theorem DaAll.set {v : V} {d : PyData} (h : Da K H v d) : ∀ {vs : List V} {ds : List PyData} (i : Nat), DaAll K H vs ds → DaAll K H (vs.set i v) (ds.set i d)
  | _, _, _, .nil => .nil
  | _, _, 0, .cons _ r => .cons h r
  | _, _, i + 1, .cons q r => .cons q (DaAll.set h i r)
theorem daAll_ints : ∀ (ns : List Int), DaAll K H (ns.map V.int) (ns.map .int)
  | [] => .nil
  | n :: r => .cons (.int n) (daAll_ints r)
mutual
theorem Da.dp : ∀ {v : V} {d : PyData}, Da K H v d → PyData.plain d = true → Dp K H v d
  | _, _, .non, _ => .non
  | _, _, .bl b, _ => .bl b
  | _, _, .int i, _ => .int i
  | _, _, .str x, _ => .str x
  | _, _, .lst h r, p => .lst (SqL.of h) (DaAll.dp r (by simpa [PyData.plain] using p))
  | _, _, .tup h r, p => .tup (SqT.of h) (DaAll.dp r (by simpa [PyData.plain] using p))
  | _, _, .ftup h _ _ r, p => .tup (.inl (.inr ⟨_, h⟩)) (DaAll.dp r (by simpa [PyData.plain] using p))
  | _, _, .dk _ _, p => by simp [PyData.plain] at p
  | _, _, .dt _ _ _, p => by simp [PyData.plain] at p
  | _, _, .dte _, p => by simp [PyData.plain] at p
  | _, _, .ob _, p => by simp [PyData.plain] at p
theorem DaAll.dp : ∀ {vs : List V} {ds : List PyData}, DaAll K H vs ds → PyData.plainAll ds = true → DpAll K H vs ds
  | _, _, .nil, _ => .nil
  | _, _, .cons h r, p => by
    simp only [PyData.plainAll, Bool.and_eq_true] at p
    exact .cons (Da.dp h p.1) (DaAll.dp r p.2)
end
end
/-- a tuple that is known to have no dict of its own -/
def Plt (H : Hp) (v : V) : Prop := ∃ a ob xs, v = .ref a ∧ H a = some (.frz ob (.tup xs)) ∧ ob.dict = none
theorem Plt.ext {H H' : Hp} {v : V} (h : Plt H v) (e : ExtN H H') : Plt H' v := by
  obtain ⟨a, ob, xs, h1, h2, h3⟩ := h
  exact ⟨a, ob, xs, h1, e _ _ h2 (fun ps z => by cases z), h3⟩
def hide (O : List Addr) (H : Hp) : Hp := fun b => if b ∈ O then none else H b
section
variable {O : List Addr} {H H' : Hp} {a b : Addr} {o : HO}
theorem hide_in (h : b ∈ O) : hide O H b = none := if_pos h
theorem hide_out (h : b ∉ O) : hide O H b = H b := if_neg h
theorem hide_some (h : hide O H b = some o) : b ∉ O ∧ H b = some o := by
  by_cases hb : b ∈ O
  · rw [hide_in hb] at h
    cases h
  · rw [hide_out hb] at h
    exact ⟨hb, h⟩
theorem hide_nil : hide [] H = H := by
  funext b
  exact if_neg (by simp)
/-- a new object of ours -/
theorem hide_new (h : H a = none) : hide (a :: O) (upd H a o) = hide O H := by
  funext b
  by_cases hb : b = a
  · subst hb
    rw [hide_in (List.mem_cons_self)]
    unfold hide
    split
    · rfl
    · exact h.symm
  · by_cases hO : b ∈ O
    · rw [hide_in hO, hide_in (List.mem_cons_of_mem _ hO)]
    · rw [hide_out hO, hide_out (fun z => (List.mem_cons.mp z).elim hb hO), upd_ne hb]
/-- an object of ours is written -/
theorem hide_upd (h : a ∈ O) : hide O (upd H a o) = hide O H := by
  funext b
  by_cases hO : b ∈ O
  · rw [hide_in hO, hide_in hO]
  · rw [hide_out hO, hide_out hO, upd_ne (fun z => hO (by rw [z]; exact h))]
theorem ext_hide (e : ∀ b o, b ∉ O → H b = some o → (∀ ps, o ≠ .tbl ps) → H' b = some o) : ExtN (hide O H) (hide O H') := fun b o h n => by
  obtain ⟨h1, h2⟩ := hide_some h
  rw [hide_out h1]
  exact e b o h1 h2 n
theorem ext_sub {O' : List Addr} (h : ∀ b ∈ O', b ∈ O) : ExtN (hide O H) (hide O' H) := fun b o e _ => by
  obtain ⟨h1, h2⟩ := hide_some e
  rw [hide_out (fun z => h1 (h b z))]
  exact h2
end
/-- where the tables of code objects stand: of generator expressions; of lambdas, with their names -/
structure Tb where
  tg : List Addr
  tl : List (Addr × Str)
  dc : List Addr := []
  /-- tables of generator expressions that hold others; code objects that are known, with their tables -/
  tn : List Addr := []
  cn : List (Addr × Addr) := []
  /-- objects that are known and stay: functions, code objects -/
  kn : List (Addr × HO) := []
def Tb.ap (T : Tb) : List Addr := T.tl.map (·.1) ++ T.tn
/-- a code object, its table at P -/
def CdRec (o : Obj) (c P : Addr) : Prop :=
  ∃ vs file tf flags tg inF text tt, o.cls = .type "code" ∧ o.data = .fields vs ∧ vs[11]? = some (.ref P) ∧ vs.getD 11 .none = .ref P ∧ vs.getD 18 .none = .str file tf ∧
    vs.getD 7 .none = .int flags tg ∧ vs.getD 9 .none = .bool inF ∧ vs.getD 10 .none = .int text tt ∧ c ≠ P
def CdAt (H : Hp) (c P : Addr) : Prop := ∃ oc, H c = some (.frz oc (.own c)) ∧ CdRec oc c P
/-- a table whose code objects are known, their own tables apart from ap -/
def TabN (ap : List Addr) (H : Hp) (P : Addr) : Prop := ∃ ps : Array Value, H P = some (.tbl ps) ∧ TriplesOk ps.toList ∧
  ∀ pos cv, codeAmong pos ps.toList = some cv → ∃ c P', cv = .ref c ∧ CdAt H c P' ∧ GxR.TabG H P' ∧ P' ∉ ap
structure TOk (T : Tb) (H : Hp) : Prop where
  g : ∀ P ∈ T.tg, GxR.TabG H P
  l : Tabs T.tl H
  n : ∀ P ∈ T.tn, TabN T.ap H P
  c : ∀ q ∈ T.cn, CdAt H q.1 q.2
  k : ∀ q ∈ T.kn, H q.1 = some q.2 ∧ ((∃ oc, q.2 = .frz oc (.own q.1)) ∨ ∃ s, q.2 = LamX.CodeO q.1 s)
theorem TOk.of {T : Tb} {H H' : Hp} (t : TOk T H) (e : ∀ b o, H b = some o → ((∃ ps, o = .tbl ps) ∨ (∃ oc, o = .frz oc (.own b)) ∨ ∃ q, o = LamX.CodeO b q) → H' b = some o) : TOk T H' := by
  have eg : ∀ {P}, GxR.TabG H P → GxR.TabG H' P := fun {P} ⟨ps, h1, h2⟩ => ⟨ps, e _ _ h1 (.inl ⟨_, rfl⟩), h2⟩
  have ec : ∀ {c P}, CdAt H c P → CdAt H' c P := fun {c P} ⟨oc, h1, h2⟩ => ⟨oc, e _ _ h1 (.inr (.inl ⟨_, rfl⟩)), h2⟩
  refine ⟨fun P hP => eg (t.g P hP), fun p hp => ?_, fun P hP => ?_, fun q hq => ec (t.c q hq), fun q hq => ⟨e _ _ (t.k q hq).1 (.inr (t.k q hq).2), (t.k q hq).2⟩⟩
  · obtain ⟨ps, h1, h2, h3⟩ := t.l p hp
    exact ⟨ps, e _ _ h1 (.inl ⟨_, rfl⟩), h2, fun pos cv hcv => by obtain ⟨c', e1, h4⟩ := h3 pos cv hcv; exact ⟨c', e1, e _ _ h4 (.inr (.inr ⟨_, rfl⟩))⟩⟩
  · obtain ⟨ps, h1, h2, h3⟩ := t.n P hP
    exact ⟨ps, e _ _ h1 (.inl ⟨_, rfl⟩), h2, fun pos cv hcv => by obtain ⟨c', P', e1, h4, h5, h6⟩ := h3 pos cv hcv; exact ⟨c', P', e1, ec h4, eg h5, h6⟩⟩
theorem TOk.keep {T : Tb} {H H' : Hp} (t : TOk T H) (e : ∀ b o, H b = some o → H' b = some o) : TOk T H' := t.of fun b o h _ => e b o h
/-- an object that is no table and no code object is written -/
theorem TOk.put {T : Tb} {H : Hp} {D : Addr} {o o' : HO} (t : TOk T H) (hD : H D = some o) (h1 : ∀ ps, o ≠ .tbl ps) (h2 : ∀ oc, o ≠ .frz oc (.own D)) (h3 : ∀ q, o ≠ LamX.CodeO D q) : TOk T (L2.upd H D o') :=
  t.of fun b u h z => by
    rw [upd_ne fun e => ?_]
    · exact h
    · subst e
      rw [hD] at h
      cases h
      rcases z with ⟨ps, z⟩ | ⟨oc, z⟩ | ⟨q, z⟩
      · exact h1 ps z
      · exact h2 oc z
      · exact h3 q z
/-- what is lent: a list, a dict -/
inductive LD where
  | l (ds : List PyData)
  | t (kvs : List (List Key × PyData))
def LdOk (K : PySem.W.Frag) (B : Hp) : LD → HO → Prop
  | .l ds, o => ∃ vs, o = .lst vs ∧ DaAll K B vs ds
  | .t kvs, o => ∃ vs, o = .dT vs ∧ vs.map (·.1) = kvs.map (·.1) ∧ DaAll K B (vs.map (·.2)) (kvs.map (·.2))
theorem LdOk.ext {K : PySem.W.Frag} {B B' : Hp} {l : LD} {o : HO} (h : LdOk K B l o) (e : ExtN B B') : LdOk K B' l o := by
  cases l with
  | l ds => obtain ⟨vs, h1, h2⟩ := h; exact ⟨vs, h1, h2.ext e⟩
  | t kvs => obtain ⟨vs, h1, h2, h3⟩ := h; exact ⟨vs, h1, h2, h3.ext e⟩
inductive Sl where
  | un
  | sh (d : PyData)
  | ol (ds : List PyData)
  | ok (kvs : List (Key × PyData))
  | ot (kvs : List (List Key × PyData))
  | on (kvs : List (NestedKey × PyData))
  | sn (kvs : List (NestedKey × PyData))
  | sk (kvs : List (Key × PyData))
  | dice
  | scr (ns : List Int)
  | ln (a : Addr) (o : LD)
abbrev En := List Sl
def Sl.owned : Sl → Bool
  | .un => false
  | .sh _ => false
  | .dice => false
  | .scr _ => false
  | .sn _ => false
  | .sk _ => false
  | _ => true
/-- a dict with nested keys, given up -/
def SnOk (K : PySem.W.Frag) (B : Hp) (kvs : List (NestedKey × PyData)) (x : V) : Prop := ∃ a ob vs, x = .ref a ∧ B a = some (.frz ob (NO a vs)) ∧ vs.map (·.1) = kvs.map (·.1) ∧ DaAll K B ((vs.map fun p => .ref p.2.1) ++ vs.map (·.2.2)) ((kvs.map fun p => p.1.data) ++ kvs.map (·.2))
theorem SnOk.ext {K : PySem.W.Frag} {B B' : Hp} {kvs : List (NestedKey × PyData)} {x : V} (h : SnOk K B kvs x) (e : ExtN B B') : SnOk K B' kvs x := by
  obtain ⟨a, ob, vs, h1, h2, h3, h4⟩ := h
  exact ⟨a, ob, vs, h1, e _ _ h2 (fun ps z => by cases z), h3, h4.ext e⟩
/-- a dict of numbers or texts as keys, given up and locked -/
def SkOk (K : PySem.W.Frag) (B : Hp) (kvs : List (Key × PyData)) (x : V) : Prop := ∃ a ob vs, x = .ref a ∧ B a = some (.frz ob (.dK vs)) ∧ vs.map (·.1) = kvs.map (·.1) ∧ DaAll K B (vs.map (·.2)) (kvs.map (·.2))
theorem SkOk.ext {K : PySem.W.Frag} {B B' : Hp} {kvs : List (Key × PyData)} {x : V} (h : SkOk K B kvs x) (e : ExtN B B') : SkOk K B' kvs x := by
  obtain ⟨a, ob, vs, h1, h2, h3, h4⟩ := h
  exact ⟨a, ob, vs, h1, e _ _ h2 (fun ps z => by cases z), h3, h4.ext e⟩
def Own (D0 O : List Addr) (a : Addr) : Prop := a ∈ O ∧ a ∉ D0
def SlOk (K : PySem.W.Frag) (D0 O : List Addr) (H : Hp) : Sl → Option V → Prop
  | .un, _ => True
  | .sh d, v => ∃ x, v = some x ∧ Da K (hide O H) x d
  | .ol ds, v => ∃ a vs, v = some (.ref a) ∧ Own D0 O a ∧ H a = some (.lst vs) ∧ DaAll K (hide O H) vs ds
  | .ok kvs, v => ∃ a vs, v = some (.ref a) ∧ Own D0 O a ∧ H a = some (.dK vs) ∧ vs.map (·.1) = kvs.map (·.1) ∧ DaAll K (hide O H) (vs.map (·.2)) (kvs.map (·.2))
  | .ot kvs, v => ∃ a vs, v = some (.ref a) ∧ Own D0 O a ∧ H a = some (.dT vs) ∧ vs.map (·.1) = kvs.map (·.1) ∧ DaAll K (hide O H) (vs.map (·.2)) (kvs.map (·.2))
  | .on kvs, v => ∃ a vs, v = some (.ref a) ∧ Own D0 O a ∧ H a = some (NO a vs) ∧ vs.map (·.1) = kvs.map (·.1) ∧ DaAll K (hide O H) ((vs.map fun p => .ref p.2.1) ++ vs.map (·.2.2)) ((kvs.map fun p => p.1.data) ++ kvs.map (·.2))
  | .sn kvs, v => ∃ x, v = some x ∧ SnOk K (hide O H) kvs x
  | .sk kvs, v => ∃ x, v = some x ∧ SkOk K (hide O H) kvs x
  | .dice, v => ∃ a, v = some (.ref a) ∧ a ∈ D0
  | .scr ns, v => ∃ a, v = some (.ref a) ∧ SqL K (hide O H) a (ns.map V.int)
  | .ln a l, v => v = some (.ref a) ∧ Own D0 O a ∧ ∃ o, H a = some o ∧ LdOk K (hide O H) l o
/-- Hb: what stood; O: what is ours alone; fl: ours, in flight -/
structure Gh where
  Hb : Hp
  O : List Addr
  fl : List (Addr × HO)
structure Rep (T : Tb) (K : PySem.W.Frag) (G : Gh) (ρ : En) (σ : L2.St) (H : Hp) : Prop where
  len : ρ.length = σ.length
  slot : ∀ (i : Nat) (s : Sl), ρ[i]? = some s → ∃ v, σ[i]? = some v ∧ SlOk K T.dc G.O H s v
  sep : ∀ (i j : Nat) (s t : Sl) (a : Addr), i ≠ j → ρ[i]? = some s → ρ[j]? = some t → s.owned = true → t.owned = true → σ[i]? = some (some (.ref a)) → σ[j]? = some (some (.ref a)) → False
  tab : TOk T H
  ext : ExtN G.Hb (hide G.O H)
  dom : ∀ a ∈ G.O, ∃ o, H a = some o ∧ ∀ ps, o ≠ .tbl ps
  fly : ∀ p ∈ G.fl, p.1 ∈ G.O ∧ H p.1 = some p.2
  dcs : ∀ a ∈ T.dc, a ∈ G.O ∧ (∃ x y z, H a = some (.lst [.int x, .int y, .int z])) ∧ ∀ q ∈ G.fl, q.1 ≠ a
section
variable {T : Tb} {K : PySem.W.Frag} {G : Gh} {ρ : En} {σ : L2.St} {H H' : Hp}
theorem SlOk.ext {D0 O : List Addr} {s : Sl} {v : Option V} (h : SlOk K D0 O H s v) (e : ExtN (hide O H) (hide O H')) (ho : ∀ a ∈ O, a ∉ D0 → H' a = H a) : SlOk K D0 O H' s v := by
  cases s with
  | un => trivial
  | sh d => obtain ⟨x, h1, h2⟩ := h; exact ⟨x, h1, h2.ext e⟩
  | ol ds => obtain ⟨a, vs, h1, h2, h3, h4⟩ := h; exact ⟨a, vs, h1, h2, (ho a h2.1 h2.2).trans h3, h4.ext e⟩
  | ok ds => obtain ⟨a, vs, h1, h2, h3, h4, h5⟩ := h; exact ⟨a, vs, h1, h2, (ho a h2.1 h2.2).trans h3, h4, h5.ext e⟩
  | ot ds => obtain ⟨a, vs, h1, h2, h3, h4, h5⟩ := h; exact ⟨a, vs, h1, h2, (ho a h2.1 h2.2).trans h3, h4, h5.ext e⟩
  | ln a _ => obtain ⟨h1, h2, hob, h3, h5⟩ := h; exact ⟨h1, h2, hob, (ho a h2.1 h2.2).trans h3, h5.ext e⟩
  | on ds => obtain ⟨a, vs, h1, h2, h3, h4, h5⟩ := h; exact ⟨a, vs, h1, h2, (ho a h2.1 h2.2).trans h3, h4, h5.ext e⟩
  | sn d => obtain ⟨x, h1, h2⟩ := h; exact ⟨x, h1, h2.ext e⟩
  | sk d => obtain ⟨x, h1, h2⟩ := h; exact ⟨x, h1, h2.ext e⟩
  | dice => exact h
  | scr ns => obtain ⟨a, h1, h2⟩ := h; exact ⟨a, h1, sqL_ext e h2⟩
theorem Rep.stepD (R : Rep T K G ρ σ H) (e : ExtN (hide G.O H) (hide G.O H')) (ho : ∀ a ∈ G.O, a ∉ T.dc → H' a = H a) (hd : ∀ a ∈ T.dc, ∃ x y z, H' a = some (.lst [.int x, .int y, .int z])) (t : TOk T H') : Rep T K G ρ σ H' where
  len := R.len
  slot i s h := by obtain ⟨v, h1, h2⟩ := R.slot i s h; exact ⟨v, h1, h2.ext e ho⟩
  sep := R.sep
  tab := t
  ext := R.ext.trans e
  dom a ha := by
    by_cases z : a ∈ T.dc
    · obtain ⟨x, y, z, h⟩ := hd a z; exact ⟨_, h, fun ps e => by cases e⟩
    · rw [ho a ha z]; exact R.dom a ha
  fly p hp := by obtain ⟨h1, h2⟩ := R.fly p hp; exact ⟨h1, (ho _ h1 fun z => (R.dcs _ z).2.2 p hp rfl).trans h2⟩
  dcs a ha := ⟨(R.dcs a ha).1, hd a ha, (R.dcs a ha).2.2⟩
theorem Rep.step (R : Rep T K G ρ σ H) (e : ExtN (hide G.O H) (hide G.O H')) (ho : ∀ a ∈ G.O, H' a = H a) (t : TOk T H') : Rep T K G ρ σ H' :=
  R.stepD e (fun a ha _ => ho a ha) (fun a ha => by obtain ⟨h1, h2, _⟩ := R.dcs a ha; rw [ho a h1]; exact h2) t
/-- objects are laid -/
theorem Rep.alloc (R : Rep T K G ρ σ H) (e : ∀ b o, H b = some o → H' b = some o) : Rep T K G ρ σ H' :=
  R.step (ext_hide fun b o _ h _ => e b o h) (fun a ha => by obtain ⟨o, h, _⟩ := R.dom a ha; rw [h, e _ _ h]) (R.tab.keep e)
theorem Rep.rebase (R : Rep T K G ρ σ H) : Rep T K ⟨hide G.O H, G.O, G.fl⟩ ρ σ H := ⟨R.len, R.slot, R.sep, R.tab, ExtN.refl _, R.dom, R.fly, R.dcs⟩
theorem Rep.unbase {Hb : Hp} (R : Rep T K ⟨Hb, G.O, G.fl⟩ ρ σ H) (e : ExtN G.Hb Hb) : Rep T K G ρ σ H := ⟨R.len, R.slot, R.sep, R.tab, e.trans R.ext, R.dom, R.fly, R.dcs⟩
end
/-- an exception: its class, its field -/
structure Exn where
  cls : Addr
  fld : Option (Str × PyData)
def ExR (K : PySem.W.Frag) (x : Exn) (cls : Value) (dd : Option Addr) (H : Hp) : Prop := cls = .ref x.cls ∧ match x.fld with
  | none => dd = none
  | some (f, d) => ∃ a v, dd = some a ∧ H a = some (.xd [(f, v)]) ∧ Da K H v d
abbrev PW := En → (PyData → Prop) → (Exn → Prop) → Prop
abbrev PWB := En → (Bool → Prop) → (Exn → Prop) → Prop
abbrev PWs := En → (List PyData → Prop) → (Exn → Prop) → Prop
section
variable (T : Tb) (K : PySem.W.Frag) (W : WX)
/-- what an exception does -/
def exOut (G : Gh) (ρ : En) (σ : L2.St) : Exn → Prop := fun x => ∀ H' cls dd, Rep T K G ρ σ H' → ExR K x cls dd (hide G.O H') → W cls dd σ H'
def lift (w : PW) : TE := fun σ H Q => ∃ G ρ, Rep T K G ρ σ H ∧ w ρ (fun d => ∀ v H', Rep T K G ρ σ H' → Da K (hide G.O H') v d → Q v H') (exOut T K W G ρ σ)
def liftB (w : PWB) : TT := fun σ H Q => ∃ G ρ, Rep T K G ρ σ H ∧ w ρ (fun b => ∀ H', Rep T K G ρ σ H' → Q b H') (exOut T K W G ρ σ)
def liftA (w : PWs) : TA := fun σ H Q => ∃ G ρ, Rep T K G ρ σ H ∧ w ρ (fun ds => ∀ vs H', Rep T K G ρ σ H' → DaAll K (hide G.O H') vs ds → Q vs H') (exOut T K W G ρ σ)
/-- a new object, ours -/
def Apt (ρ : En) (σ : L2.St) (a : Addr) : Prop := ∀ (i : Nat) (s : Sl), ρ[i]? = some s → s.owned = true → σ[i]? ≠ some (some (.ref a))
/-- a new list, ours -/
def liftF (w : PW) : TE := fun σ H Q => ∃ G ρ, Rep T K G ρ σ H ∧ w ρ (fun d => ∀ a vs ds H', d = .list ds → Rep T K ⟨G.Hb, a :: G.O, G.fl⟩ ρ σ H' → a ∉ G.O → Apt ρ σ a → H' a = some (.lst vs) → DaAll K (hide (a :: G.O) H') vs ds → Q (.ref a) H') (exOut T K W G ρ σ)
/-- a value, or a list or dict of ours that is read only -/
inductive Top (D0 O : List Addr) (H : Hp) : V → PyData → Prop
  | sh {v : V} {d : PyData} : Da K (hide O H) v d → Top D0 O H v d
  | ol {a : Addr} {vs : List V} {ds : List PyData} : a ∈ O → H a = some (.lst vs) → DaAll K (hide O H) vs ds → a ∉ D0 → Top D0 O H (.ref a) (.list ds)
  | ok {a : Addr} {vs : List (Key × V)} {ds : List PyData} : a ∈ O → H a = some (.dK vs) → DaAll K (hide O H) (vs.map (·.2)) ds → a ∉ D0 → Top D0 O H (.ref a) (.dict ((vs.map fun p => keyD p.1).zip ds))
  | ot {a : Addr} {vs : List (List Key × V)} {ds : List PyData} : a ∈ O → H a = some (.dT vs) → DaAll K (hide O H) (vs.map (·.2)) ds → a ∉ D0 → Top D0 O H (.ref a) (.dict ((vs.map fun p => .tuple (p.1.map keyD)).zip ds))
def liftR (w : PW) : TE := fun σ H Q => ∃ G ρ, Rep T K G ρ σ H ∧ w ρ (fun d => ∀ v H', Rep T K G ρ σ H' → Top K T.dc G.O H' v d → Q v H') (exOut T K W G ρ σ)
end
def Mono {α : Type} (w : En → (α → Prop) → (Exn → Prop) → Prop) : Prop := ∀ ρ Q Q' E E', (∀ d, Q d → Q' d) → (∀ x, E x → E' x) → w ρ Q E → w ρ Q' E'
structure DE (T : Tb) (X : Cx) (W : WX) (e : Expr) (w : PW) : Prop where
  pe : PE X e (lift T X.K W w)
  mono : Mono w
structure DT (T : Tb) (X : Cx) (W : WX) (e : Expr) (w : PWB) : Prop where
  pt : PT X e (liftB T X.K W w)
  mono : Mono w
structure DA (T : Tb) (X : Cx) (W : WX) (es : List Expr) (w : PWs) : Prop where
  pa : PA X es (liftA T X.K W w)
  mono : Mono w
structure DF (T : Tb) (X : Cx) (W : WX) (e : Expr) (w : PW) : Prop where
  pe : PE X e (liftF T X.K W w)
  mono : Mono w
structure DR (T : Tb) (X : Cx) (W : WX) (e : Expr) (w : PW) : Prop where
  pe : PE X e (liftR T X.K W w)
  mono : Mono w
theorem pe_mono {X : Cx} {e : Expr} {t t' : TE} (h : PE X e t) (i : ∀ σ H Q, t' σ H Q → t σ H Q) : PE X e t' := ⟨fun pins s σ H Q I q => h.run pins s σ H Q I (i _ _ _ q)⟩
theorem pt_mono {X : Cx} {e : Expr} {t t' : TT} (h : PT X e t) (i : ∀ σ H Q, t' σ H Q → t σ H Q) : PT X e t' := ⟨fun pins s σ H Q I q => h.run pins s σ H Q I (i _ _ _ q)⟩
section
variable {T : Tb} {X : Cx} {W : WX} {K : PySem.W.Frag} {G : Gh} {ρ : En} {σ : L2.St} {H : Hp}
/-- going on: what is behind knows how the heap grew -/
theorem lift_intro {w : PW} {R : VK} (m : Mono w) (r : Rep T K G ρ σ H)
    (h : w ρ (fun d => ∀ v H', Rep T K G ρ σ H' → ExtN (hide G.O H) (hide G.O H') → Da K (hide G.O H') v d → R v H') (exOut T K W G ρ σ)) : lift T K W w σ H R :=
  ⟨⟨hide G.O H, G.O, G.fl⟩, ρ, r.rebase, m _ _ _ _ _ (fun d hd v H' r' a => hd v H' (r'.unbase r.ext) r'.ext a) (fun x hx H' cls dd r' q => hx H' cls dd (r'.unbase r.ext) q) h⟩
/-- what is in flight stays -/
theorem Rep.fly1 {a : Addr} {o : HO} (r : Rep T K G ρ σ H) (ha : a ∈ G.O) (h : H a = some o) (nd : a ∉ T.dc) : Rep T K ⟨G.Hb, G.O, (a, o) :: G.fl⟩ ρ σ H :=
  ⟨r.len, r.slot, r.sep, r.tab, r.ext, r.dom, fun p hp => by
    rcases List.mem_cons.mp hp with e | hp
    · rw [e]; exact ⟨ha, h⟩
    · exact r.fly p hp, fun b hb => ⟨(r.dcs b hb).1, (r.dcs b hb).2.1, fun q hq => by
    rcases List.mem_cons.mp hq with e | hq
    · rw [e]; exact fun z => nd (by rw [show a = b from z]; exact hb)
    · exact (r.dcs b hb).2.2 q hq⟩⟩
theorem Rep.land {p : Addr × HO} {Hb : Hp} {O : List Addr} {fl : List (Addr × HO)} (r : Rep T K ⟨Hb, O, p :: fl⟩ ρ σ H) : Rep T K ⟨Hb, O, fl⟩ ρ σ H ∧ H p.1 = some p.2 :=
  ⟨⟨r.len, r.slot, r.sep, r.tab, r.ext, r.dom, fun q hq => r.fly q (List.mem_cons_of_mem _ hq), fun b hb => ⟨(r.dcs b hb).1, (r.dcs b hb).2.1, fun q hq => (r.dcs b hb).2.2 q (List.mem_cons_of_mem _ hq)⟩⟩, (r.fly p List.mem_cons_self).2⟩
theorem liftR_intro {w : PW} {R : VK} (m : Mono w) (r : Rep T K G ρ σ H)
    (h : w ρ (fun d => ∀ v H', Rep T K G ρ σ H' → ExtN (hide G.O H) (hide G.O H') → Top K T.dc G.O H' v d → R v H') (exOut T K W G ρ σ)) : liftR T K W w σ H R :=
  ⟨⟨hide G.O H, G.O, G.fl⟩, ρ, r.rebase, m _ _ _ _ _ (fun d hd v H' r' a => hd v H' (r'.unbase r.ext) r'.ext a) (fun x hx H' cls dd r' q => hx H' cls dd (r'.unbase r.ext) q) h⟩
theorem liftF_intro {w : PW} {R : VK} (m : Mono w) (r : Rep T K G ρ σ H)
    (h : w ρ (fun d => ∀ a vs ds H', d = .list ds → Rep T K ⟨G.Hb, a :: G.O, G.fl⟩ ρ σ H' → ExtN (hide G.O H) (hide (a :: G.O) H') → a ∉ G.O → Apt ρ σ a → H' a = some (.lst vs) → DaAll K (hide (a :: G.O) H') vs ds → R (.ref a) H') (exOut T K W G ρ σ)) : liftF T K W w σ H R :=
  ⟨⟨hide G.O H, G.O, G.fl⟩, ρ, r.rebase, m _ _ _ _ _ (fun d hd a vs ds H' e r' na ap x y => hd a vs ds H' e (r'.unbase (G := ⟨G.Hb, a :: G.O, G.fl⟩) r.ext) r'.ext na ap x y) (fun x hx H' cls dd r' q => hx H' cls dd (r'.unbase r.ext) q) h⟩
theorem liftB_intro {w : PWB} {R : Bool → Hp → Prop} (m : Mono w) (r : Rep T K G ρ σ H)
    (h : w ρ (fun b => ∀ H', Rep T K G ρ σ H' → ExtN (hide G.O H) (hide G.O H') → R b H') (exOut T K W G ρ σ)) : liftB T K W w σ H R :=
  ⟨⟨hide G.O H, G.O, G.fl⟩, ρ, r.rebase, m _ _ _ _ _ (fun d hd H' r' => hd H' (r'.unbase r.ext) r'.ext) (fun x hx H' cls dd r' q => hx H' cls dd (r'.unbase r.ext) q) h⟩
theorem liftA_intro {w : PWs} {R : List V → Hp → Prop} (m : Mono w) (r : Rep T K G ρ σ H)
    (h : w ρ (fun ds => ∀ vs H', Rep T K G ρ σ H' → ExtN (hide G.O H) (hide G.O H') → DaAll K (hide G.O H') vs ds → R vs H') (exOut T K W G ρ σ)) : liftA T K W w σ H R :=
  ⟨⟨hide G.O H, G.O, G.fl⟩, ρ, r.rebase, m _ _ _ _ _ (fun d hd vs H' r' a => hd vs H' (r'.unbase r.ext) r'.ext a) (fun x hx H' cls dd r' q => hx H' cls dd (r'.unbase r.ext) q) h⟩
end
end PL
set_option Elab.async false
set_option linter.all false
set_option maxRecDepth 100000
set_option maxHeartbeats 2000000
namespace PL
open PySem PySem.Spec PyProof.Rows L2
open LamX (ExtN Tabs TabS)
section
variable {T : Tb} {K : PySem.W.Frag} {G : Gh} {ρ : En} {σ : L2.St} {H H' : Hp}
theorem Rep.drop {a : Addr} (r0 : Rep T K G ρ σ H) (r : Rep T K ⟨G.Hb, a :: G.O, G.fl⟩ ρ σ H') (ap : Apt ρ σ a) : Rep T K G ρ σ H' where
  len := r.len
  slot i s h := by
    obtain ⟨v, h1, h2⟩ := r.slot i s h
    have e : ExtN (hide (a :: G.O) H') (hide G.O H') := ext_sub fun b hb => List.mem_cons_of_mem _ hb
    have mem : ∀ b, s.owned = true → v = some (.ref b) → Own T.dc (a :: G.O) b → Own T.dc G.O b := fun b ho ev hb => ⟨by
      rcases List.mem_cons.mp hb.1 with z | z
      · rw [ev, z] at h1
        exact absurd h1 (ap i s h ho)
      · exact z, hb.2⟩
    refine ⟨v, h1, ?_⟩
    cases s with
    | un => trivial
    | sh d => obtain ⟨x, h3, h4⟩ := h2; exact ⟨x, h3, h4.ext e⟩
    | ol ds => obtain ⟨b, vs, h3, h4, h5, h6⟩ := h2; exact ⟨b, vs, h3, mem b rfl h3 h4, h5, h6.ext e⟩
    | ok ds => obtain ⟨b, vs, h3, h4, h5, h6, h7⟩ := h2; exact ⟨b, vs, h3, mem b rfl h3 h4, h5, h6, h7.ext e⟩
    | ot ds => obtain ⟨b, vs, h3, h4, h5, h6, h7⟩ := h2; exact ⟨b, vs, h3, mem b rfl h3 h4, h5, h6, h7.ext e⟩
    | ln b _ => obtain ⟨h3, h4, hob, h5, h7⟩ := h2; exact ⟨h3, mem b rfl h3 h4, hob, h5, h7.ext e⟩
    | on ds => obtain ⟨b, vs, h3, h4, h5, h6, h7⟩ := h2; exact ⟨b, vs, h3, mem b rfl h3 h4, h5, h6, h7.ext e⟩
    | sn d => obtain ⟨x, h3, h4⟩ := h2; exact ⟨x, h3, h4.ext e⟩
    | sk d => obtain ⟨x, h3, h4⟩ := h2; exact ⟨x, h3, h4.ext e⟩
    | dice => exact h2
    | scr ns => obtain ⟨b, h3, h4⟩ := h2; exact ⟨b, h3, sqL_ext e h4⟩
  sep := r.sep
  tab := r.tab
  ext := r.ext.trans (ext_sub fun b hb => List.mem_cons_of_mem _ hb)
  dom b hb := r.dom b (List.mem_cons_of_mem _ hb)
  fly p hp := ⟨(r0.fly p hp).1, (r.fly p hp).2⟩
  dcs b hb := ⟨(r0.dcs b hb).1, (r.dcs b hb).2⟩
/-- a new list is laid, ours -/
theorem Rep.own {a : Addr} {o : HO} (r : Rep T K G ρ σ H) (h : H a = none) (ho : ∀ ps, o ≠ .tbl ps) : Rep T K ⟨G.Hb, a :: G.O, G.fl⟩ ρ σ (upd H a o) ∧ hide (a :: G.O) (upd H a o) = hide G.O H ∧ a ∉ G.O ∧ Apt ρ σ a := by
  have na : a ∉ G.O := fun z => by obtain ⟨o, e, _⟩ := r.dom a z; rw [h] at e; cases e
  have eh : hide (a :: G.O) (upd H a o) = hide G.O H := hide_new h
  have at_ : ∀ b ∈ G.O, upd H a o b = H b := fun b hb => upd_ne fun z => na (by rw [← z]; exact hb)
  have al : ∀ b o', H b = some o' → upd H a o b = some o' := fun b o' e => by rw [upd_ne (ne_of_none e h)]; exact e
  refine ⟨⟨r.len, fun i s hs => ?_, r.sep, r.tab.keep al, by rw [eh]; exact r.ext, fun b hb => ?_, fun p hp => ?_, fun b hb => ⟨List.mem_cons_of_mem _ (r.dcs b hb).1, by rw [at_ b (r.dcs b hb).1]; exact (r.dcs b hb).2.1, (r.dcs b hb).2.2⟩⟩, eh, na, fun i s hs hw e => ?_⟩
  · obtain ⟨v, h1, h2⟩ := r.slot i s hs
    refine ⟨v, h1, ?_⟩
    cases s with
    | un => trivial
    | sh d => obtain ⟨x, h3, h4⟩ := h2; exact ⟨x, h3, by rw [eh]; exact h4⟩
    | ol ds => obtain ⟨b, vs, h3, h4, h5, h6⟩ := h2; exact ⟨b, vs, h3, ⟨List.mem_cons_of_mem _ h4.1, h4.2⟩, (at_ b h4.1).trans h5, by rw [eh]; exact h6⟩
    | ok ds => obtain ⟨b, vs, h3, h4, h5, h6, h7⟩ := h2; exact ⟨b, vs, h3, ⟨List.mem_cons_of_mem _ h4.1, h4.2⟩, (at_ b h4.1).trans h5, h6, by rw [eh]; exact h7⟩
    | ot ds => obtain ⟨b, vs, h3, h4, h5, h6, h7⟩ := h2; exact ⟨b, vs, h3, ⟨List.mem_cons_of_mem _ h4.1, h4.2⟩, (at_ b h4.1).trans h5, h6, by rw [eh]; exact h7⟩
    | ln b _ => obtain ⟨h3, h4, hob, h5, h7⟩ := h2; exact ⟨h3, ⟨List.mem_cons_of_mem _ h4.1, h4.2⟩, hob, (at_ b h4.1).trans h5, by rw [eh]; exact h7⟩
    | on ds => obtain ⟨b, vs, h3, h4, h5, h6, h7⟩ := h2; exact ⟨b, vs, h3, ⟨List.mem_cons_of_mem _ h4.1, h4.2⟩, (at_ b h4.1).trans h5, h6, by rw [eh]; exact h7⟩
    | sn d => obtain ⟨x, h3, h4⟩ := h2; exact ⟨x, h3, by rw [eh]; exact h4⟩
    | sk d => obtain ⟨x, h3, h4⟩ := h2; exact ⟨x, h3, by rw [eh]; exact h4⟩
    | dice => exact h2
    | scr ns => obtain ⟨b, h3, h4⟩ := h2; exact ⟨b, h3, by rw [eh]; exact h4⟩
  · rcases List.mem_cons.mp hb with z | z
    · rw [z, upd_same]; exact ⟨o, rfl, ho⟩
    · rw [at_ b z]; exact r.dom b z
  · obtain ⟨h1, h2⟩ := r.fly p hp
    exact ⟨List.mem_cons_of_mem _ h1, (at_ _ h1).trans h2⟩
  · obtain ⟨v, h1, h2⟩ := r.slot i s hs
    rw [e] at h1
    cases h1
    have : a ∈ G.O := by
      cases s with
      | un => cases hw
      | sh d => cases hw
      | ol ds => obtain ⟨b, vs, h3, h4, _⟩ := h2; cases h3; exact h4.1
      | ok ds => obtain ⟨b, vs, h3, h4, _⟩ := h2; cases h3; exact h4.1
      | ot ds => obtain ⟨b, vs, h3, h4, _⟩ := h2; cases h3; exact h4.1
      | ln b _ => obtain ⟨h3, h4, _⟩ := h2; cases h3; exact h4.1
      | sn ds => cases hw
      | sk ds => cases hw
      | on ds => obtain ⟨b, vs, h3, h4, _⟩ := h2; cases h3; exact h4.1
      | dice => obtain ⟨b, h3, h4⟩ := h2; cases h3; exact (r.dcs _ h4).1
      | scr ns => cases hw
    exact na this
theorem Top.ext {D0 O : List Addr} {v : V} {d : PyData} (h : Top K D0 O H v d) (e : ExtN (hide O H) (hide O H')) (hv : ∀ a, v = .ref a → a ∈ O → a ∉ D0 → H' a = H a) : Top K D0 O H' v d := by
  cases h with
  | sh h => exact .sh (h.ext e)
  | ol h1 h2 h3 h4 => exact .ol h1 ((hv _ rfl h1 h4).trans h2) (h3.ext e) h4
  | ok h1 h2 h3 h4 => exact .ok h1 ((hv _ rfl h1 h4).trans h2) (h3.ext e) h4
  | ot h1 h2 h3 h4 => exact .ot h1 ((hv _ rfl h1 h4).trans h2) (h3.ext e) h4
/-- without regard to whose it is -/
theorem Top.da {D0 O : List Addr} {v : V} {ds : List PyData} (h : Top K D0 O H v (.list ds)) : ∃ a vs, v = .ref a ∧ H a = some (.lst vs) ∧ DaAll K (hide O H) vs ds := by
  cases h with
  | sh h => cases h with
    | lst h1 h2 => exact ⟨_, _, rfl, (hide_some h1).2, h2⟩
  | ol h1 h2 h3 => exact ⟨_, _, rfl, h2, h3⟩
theorem Da.whole {O : List Addr} {v : V} {d : PyData} (h : Da K (hide O H) v d) : Da K H v d := h.ext fun b o e _ => (hide_some e).2
theorem DaAll.whole {O : List Addr} {vs : List V} {ds : List PyData} (h : DaAll K (hide O H) vs ds) : DaAll K H vs ds := h.ext fun b o e _ => (hide_some e).2
theorem Top.whole {D0 O : List Addr} {v : V} {d : PyData} (h : Top K D0 O H v d) (p : PyData.plain d = true) : Da K H v d := by
  cases h with
  | sh h => exact h.whole
  | ol h1 h2 h3 => exact .lst h2 h3.whole
  | ok h1 h2 h3 => simp [PyData.plain] at p
  | ot h1 h2 h3 => simp [PyData.plain] at p
end
section
variable {T : Tb} {X : Cx} {W : WX} {pos : Pos} {e a b : Expr}
def wVar (i : Nat) : PW := fun ρ Q _ => match ρ[i]? with
  | some (.sh d) => Q d
  | _ => False
def wRd (i : Nat) : PW := fun ρ Q _ => match ρ[i]? with
  | some (.sh d) => Q d
  | some (.ol ds) => Q (.list ds)
  | some (.ok kvs) => Q (.dict (kvs.map fun p => (keyD p.1, p.2)))
  | some (.ot kvs) => Q (.dict (kvs.map fun p => (.tuple (p.1.map keyD), p.2)))
  | some (.ln _ (.l ds)) => Q (.list ds)
  | _ => False
def wC (d : PyData) : PW := fun _ Q _ => Q d
theorem mono_C {d : PyData} : Mono (wC d) := fun _ _ _ _ _ hq _ h => hq _ h
theorem mono_var {i : Nat} : Mono (wVar i) := fun ρ Q Q' E E' hq _ h => by
  unfold wVar at h ⊢
  split at h
  · exact hq _ h
  · exact h
theorem mono_rd {i : Nat} : Mono (wRd i) := fun ρ Q Q' E E' hq _ h => by
  unfold wRd at h ⊢
  split at h
  · exact hq _ h
  · exact hq _ h
  · exact hq _ h
  · exact hq _ h
  · exact hq _ h
  · exact h
theorem de_var (i : Nat) (p : PE X e (tVar i)) : DE T X W e (wVar i) := ⟨pe_mono p fun σ H Q h => by
  obtain ⟨G, ρ, r, h⟩ := h
  unfold wVar at h
  split at h
  · rename_i d hd
    obtain ⟨v, h1, x, h2, h3⟩ := r.slot i _ hd
    rw [h2] at h1
    exact ⟨x, h1, h x H r h3⟩
  · exact h.elim, mono_var⟩
theorem zip_map {α : Type} (f : α → PyData) : ∀ (vs : List (α × V)) (kvs : List (α × PyData)), vs.map (·.1) = kvs.map (·.1) → (vs.map fun p => f p.1).zip (kvs.map (·.2)) = kvs.map fun p => (f p.1, p.2)
  | [], [], _ => rfl
  | [], _ :: _, h => by cases h
  | _ :: _, [], h => by cases h
  | p :: r, q :: t, h => by
    injection h with h1 h2
    simp only [List.map_cons, List.zip_cons_cons, h1, zip_map f r t h2]
theorem dr_var (i : Nat) (p : PE X e (tVar i)) : DR T X W e (wRd i) := ⟨pe_mono p fun σ H Q h => by
  obtain ⟨G, ρ, r, h⟩ := h
  unfold wRd at h
  split at h
  · rename_i d hd
    obtain ⟨v, h1, x, h2, h3⟩ := r.slot i _ hd
    rw [h2] at h1
    exact ⟨x, h1, h x H r (.sh h3)⟩
  · rename_i d hd
    obtain ⟨v, h1, a, vs, h2, h3, h4, h5⟩ := r.slot i _ hd
    rw [h2] at h1
    exact ⟨_, h1, h _ H r (.ol h3.1 h4 h5 h3.2)⟩
  · rename_i d hd
    obtain ⟨v, h1, a, vs, h2, h3, h4, h5, h6⟩ := r.slot i _ hd
    rw [h2] at h1
    refine ⟨_, h1, h _ H r ?_⟩
    rw [← zip_map keyD vs d h5]
    exact .ok h3.1 h4 h6 h3.2
  · rename_i d hd
    obtain ⟨v, h1, a, vs, h2, h3, h4, h5, h6⟩ := r.slot i _ hd
    rw [h2] at h1
    refine ⟨_, h1, h _ H r ?_⟩
    rw [← zip_map (fun k => .tuple (k.map keyD)) vs d h5]
    exact .ot h3.1 h4 h6 h3.2
  · rename_i a d hd
    obtain ⟨v, h1, h2, h3, o, h4, vs, rfl, h5⟩ := r.slot i _ hd
    rw [h2] at h1
    exact ⟨_, h1, h _ H r (.ol h3.1 h4 h5 h3.2)⟩
  · exact h.elim, mono_rd⟩
theorem de_c {v : V} {d : PyData} (p : PE X e (tC v)) (h : ∀ H, Da X.K H v d) : DE T X W e (wC d) := ⟨pe_mono p fun σ H Q q => by
  obtain ⟨G, ρ, r, q⟩ := q
  exact q v H r (h _), mono_C⟩
theorem de_int {i j} : DE T X W (.Constant (.int i) j pos) (wC (.int i)) := de_c pe_int fun _ => .int i
theorem de_bl {b j} : DE T X W (.Constant (.bool b) j pos) (wC (.bool b)) := de_c pe_bl fun _ => .bl b
theorem de_non {j} : DE T X W (.Constant .none j pos) (wC .none) := de_c pe_non fun _ => .non
theorem de_str {x j} : DE T X W (.Constant (.str x) j pos) (wC (.str x)) := de_c pe_str fun _ => .str x
theorem dr_of {w : PW} (h : DE T X W e w) : DR T X W e w := ⟨pe_mono h.pe fun σ H Q q => by
  obtain ⟨G, ρ, r, q⟩ := q
  exact ⟨G, ρ, r, h.mono _ _ _ _ _ (fun d hd v H' r' a => hd v H' r' (.sh a)) (fun _ z => z) q⟩, h.mono⟩
theorem de_fresh {w : PW} (h : DF T X W e w) : DE T X W e w := ⟨pe_mono h.pe fun σ H Q q => by
  obtain ⟨G, ρ, r, q⟩ := q
  refine ⟨G, ρ, r, h.mono _ _ _ _ _ (fun d hd a vs ds H' ed r' na ap h1 h2 => ?_) (fun _ z => z) q⟩
  subst ed
  exact hd _ H' (r.drop r' ap) (.lst (by rw [hide_out na]; exact h1) (h2.ext (ext_sub fun b hb => List.mem_cons_of_mem _ hb))), h.mono⟩
def w2 (f : PyData → PyData → (PyData → Prop) → Prop) (wa wb : PW) : PW := fun ρ Q E => wa ρ (fun x => wb ρ (fun y => f x y Q) E) E
def MonoF (f : PyData → PyData → (PyData → Prop) → Prop) : Prop := ∀ x y Q Q', (∀ d, Q d → Q' d) → f x y Q → f x y Q'
theorem mono_2 {f : PyData → PyData → (PyData → Prop) → Prop} {wa wb : PW} (mf : MonoF f) (ma : Mono wa) (mb : Mono wb) : Mono (w2 f wa wb) := fun ρ Q Q' E E' hq he h =>
  ma _ _ _ _ _ (fun x hx => mb _ _ _ _ _ (fun y hy => mf _ _ _ _ hq hy) he hx) he h
/-- what an operator does to data -/
def OpD (T : Tb) (X : Cx) (g : Value → Value → Sem Value) (f : PyData → PyData → (PyData → Prop) → Prop) : Prop :=
  OpR X g fun x y H Q => ∃ (G : Gh) (ρ : En) (σ : L2.St) (d e : PyData), Rep T X.K G ρ σ H ∧ Top X.K T.dc G.O H x d ∧ Top X.K T.dc G.O H y e ∧ f d e fun r => ∀ v H', Rep T X.K G ρ σ H' → Da X.K (hide G.O H') v r → Q v H'
/-- .. that makes a new list -/
def OpF (T : Tb) (X : Cx) (g : Value → Value → Sem Value) (f : PyData → PyData → (PyData → Prop) → Prop) : Prop :=
  OpR X g fun x y H Q => ∃ (G : Gh) (ρ : En) (σ : L2.St) (d e : PyData), Rep T X.K G ρ σ H ∧ Top X.K T.dc G.O H x d ∧ Top X.K T.dc G.O H y e ∧ f d e fun r => ∀ a vs ds H', r = .list ds → Rep T X.K ⟨G.Hb, a :: G.O, G.fl⟩ ρ σ H' → a ∉ G.O → Apt ρ σ a → H' a = some (.lst vs) → DaAll X.K (hide (a :: G.O) H') vs ds → Q (.ref a) H'
theorem both {K : PySem.W.Frag} {G : Gh} {ρ : En} {σ : L2.St} {H : Hp} {wa wb : PW} {P : PyData → PyData → Prop} {R : V → V → Hp → Prop} (ma : Mono wa) (mb : Mono wb) (r : Rep T K G ρ σ H)
    (hP : ∀ v u H' x y, Rep T K G ρ σ H' → ExtN (hide G.O H) (hide G.O H') → Top K T.dc G.O H' v x → Top K T.dc G.O H' u y → P x y → R v u H')
    (h : wa ρ (fun x => wb ρ (P x) (exOut T K W G ρ σ)) (exOut T K W G ρ σ)) : liftR T K W wa σ H fun v H1 => liftR T K W wb σ H1 fun u H2 => R v u H2 := by
  refine liftR_intro ma r (ma _ _ _ _ _ (fun x hx v H1 r1 e1 t1 => ?_) (fun _ z => z) h)
  by_cases own : ∃ a o, v = .ref a ∧ a ∈ G.O ∧ a ∉ T.dc ∧ H1 a = some o
  · obtain ⟨a, o, ev, ha, nd, ho⟩ := own
    refine liftR_intro (G := ⟨G.Hb, G.O, (a, o) :: G.fl⟩) mb (r1.fly1 ha ho nd) (mb _ _ _ _ _ (fun y hy u H2 r2 e2 t2 => ?_) (fun ex hex H' cls dd r' q => hex H' cls dd r'.land.1 q) hx)
    obtain ⟨r2', k⟩ := r2.land
    exact hP v u H2 x y r2' (e1.trans e2) (t1.ext e2 fun b eb hb _ => by rw [ev] at eb; cases eb; rw [show H2 a = some o from k, ho]) t2 hy
  · refine liftR_intro mb r1 (mb _ _ _ _ _ (fun y hy u H2 r2 e2 t2 => ?_) (fun _ z => z) hx)
    exact hP v u H2 x y r2 (e1.trans e2) (t1.ext e2 fun b eb hb nd => by
      obtain ⟨o, ho, _⟩ := r1.dom b hb
      exact absurd ⟨b, o, eb, hb, nd, ho⟩ own) t2 hy
theorem de_op {op : Operator} {f : PyData → PyData → (PyData → Prop) → Prop} {wa wb : PW} (ho : OpD T X (binaryOp op) f) (mf : MonoF f) (ha : DR T X W a wa) (hb : DR T X W b wb) : DE T X W (.BinOp a op b pos) (w2 f wa wb) :=
  ⟨pe_mono (pe_op ho ha.pe hb.pe) fun σ H Q q => by
    obtain ⟨G, ρ, r, q⟩ := q
    exact both (P := fun x y => f x y fun d => ∀ v H', Rep T X.K G ρ σ H' → Da X.K (hide G.O H') v d → Q v H') ha.mono hb.mono r (fun v u H' x y r' e tv tu p => ⟨G, ρ, σ, x, y, r', tv, tu, p⟩) q, mono_2 mf ha.mono hb.mono⟩
theorem df_op {op : Operator} {f : PyData → PyData → (PyData → Prop) → Prop} {wa wb : PW} (ho : OpF T X (binaryOp op) f) (mf : MonoF f) (ha : DR T X W a wa) (hb : DR T X W b wb) : DF T X W (.BinOp a op b pos) (w2 f wa wb) :=
  ⟨pe_mono (pe_op ho ha.pe hb.pe) fun σ H Q q => by
    obtain ⟨G, ρ, r, q⟩ := q
    exact both ha.mono hb.mono r (fun v u H' x y r' e tv tu p => ⟨G, ρ, σ, x, y, r', tv, tu, p⟩) q, mono_2 mf ha.mono hb.mono⟩
theorem de_cmp {op : CmpOp} {f : PyData → PyData → (PyData → Prop) → Prop} {wa wb : PW} (ho : OpD T X (compareOp op) f) (mf : MonoF f) (ha : DR T X W a wa) (hb : DR T X W b wb) (hm : behindInMarks op b = false) : DE T X W (.Compare a [op] [b] pos) (w2 f wa wb) :=
  ⟨pe_mono (pe_cmpR ho ha.pe hb.pe hm) fun σ H Q q => by
    obtain ⟨G, ρ, r, q⟩ := q
    exact both (P := fun x y => f x y fun d => ∀ v H', Rep T X.K G ρ σ H' → Da X.K (hide G.O H') v d → Q v H') ha.mono hb.mono r (fun v u H' x y r' e tv tu p => ⟨G, ρ, σ, x, y, r', tv, tu, p⟩) q, mono_2 mf ha.mono hb.mono⟩
end
end PL
set_option Elab.async false
set_option linter.all false
set_option maxRecDepth 100000
set_option maxHeartbeats 2000000
namespace PL
open PySem PySem.Spec PyProof.Rows L2
open LamX (ExtN Tabs TabS)
section
variable {K : PySem.W.Frag} {D0 O : List Addr} {H : Hp} {v : V}
theorem Top.int {i : Int} (h : Top K D0 O H v (.int i)) : v = .int i := by cases h with | sh h => cases h; rfl
theorem Top.str {x : Str} (h : Top K D0 O H v (.str x)) : v = .str x := by cases h with | sh h => cases h; rfl
theorem Top.bl {x : Bool} (h : Top K D0 O H v (.bool x)) : v = .bl x := by cases h with | sh h => cases h; rfl
theorem Top.non (h : Top K D0 O H v .none) : v = .non := by cases h with | sh h => cases h; rfl
theorem sqT_whole {a : Addr} {xs : List V} (h : SqT K (hide O H) a xs) : SqT K H a xs := sqT_ext (fun b o e _ => (hide_some e).2) h
theorem Top.tup {ds : List PyData} (h : Top K D0 O H v (.tuple ds)) : ∃ a xs, v = .ref a ∧ Da K (hide O H) (.ref a) (.tuple ds) ∧ SqT K H a xs ∧ DaAll K (hide O H) xs ds := by
  cases h with
  | sh h => cases h with
    | tup h1 h2 => exact ⟨_, _, rfl, .tup h1 h2, SqT.of (hide_some h1).2, h2⟩
    | ftup h1 h2 h3 h4 => exact ⟨_, _, rfl, .ftup h1 h2 h3 h4, .inl (.inr ⟨_, (hide_some h1).2⟩), h4⟩
theorem Da.seq {ds : List PyData} (h : Da K H v (.tuple ds)) : ∃ a xs, v = .ref a ∧ SqT K H a xs ∧ DaAll K H xs ds := by
  cases h with
  | tup h1 h2 => exact ⟨_, _, rfl, SqT.of h1, h2⟩
  | ftup h1 _ _ h4 => exact ⟨_, _, rfl, .inl (.inr ⟨_, h1⟩), h4⟩
theorem Da.int_ {i : Int} (h : Da K H v (.int i)) : v = .int i := by cases h; rfl
theorem Da.bl_ {x : Bool} (h : Da K H v (.bool x)) : v = .bl x := by cases h; rfl
end
section
variable {T : Tb} {X : Cx} {W : WX} {pos : Pos} {e a b : Expr} {K : PySem.W.Frag} {G : Gh} {ρ : En} {σ : L2.St} {H H' : Hp}
def fI (C : Int → Int → Prop) (g : Int → Int → Int) : PyData → PyData → (PyData → Prop) → Prop
  | .int i, .int j, Q => C i j ∧ Q (.int (g i j))
  | _, _, _ => False
theorem mono_fI {C : Int → Int → Prop} {g : Int → Int → Int} : MonoF (fI C g) := fun x y Q Q' hq h => by
  unfold fI at h ⊢
  split at h
  · exact ⟨h.1, hq _ h.2⟩
  · exact h
theorem opD_int {f : Value → Value → Sem Value} {C : Int → Int → Prop} {g : Int → Int → Int} (h : OpR X f (rI C fun i j => .int (g i j))) : OpD T X f (fI C g) := by
  intro pins s σ0 H x y v u Q I rx ry q
  obtain ⟨G, ρ, σ, d, e, r, tx, ty, q⟩ := q
  unfold fI at q
  split at q
  · rename_i i j
    exact h pins s σ0 H x y v u Q I rx ry ⟨i, j, tx.int, ty.int, q.1, q.2 _ H r (.int _)⟩
  · exact q.elim
abbrev CT : Int → Int → Prop := fun _ _ => True
theorem opD_sub : OpD T X (binaryOp .Sub) (fI CT fun i j => i - j) := opD_int fun pins s σ H x y v u Q I rx ry h => op_sub pins s σ H x y v u Q I rx ry (by obtain ⟨i, j, a, b, _, c⟩ := h; exact ⟨i, j, a, b, c⟩)
theorem opD_fdiv : OpD T X (binaryOp .FloorDiv) (fI CDiv fun i j => i / j) := opD_int op_fdiv
theorem opD_mod : OpD T X (binaryOp .Mod) (fI (fun _ j => 0 < j) fun i j => i % j) := opD_int op_mod
theorem opD_pow : OpD T X (binaryOp .Pow) (fI CPow fun i j => i ^ j.toNat) := opD_int op_pow
def fAdd : PyData → PyData → (PyData → Prop) → Prop
  | .int i, .int j, Q => Q (.int (i + j))
  | .str x, .str y, Q => x.length + y.length ≤ sizeLine ∧ Q (.str (x ++ y))
  | .tuple xs, .tuple ys, Q => xs.length + ys.length ≤ sizeLine ∧ Q (.tuple (xs ++ ys))
  | _, _, _ => False
theorem mono_add : MonoF fAdd := fun x y Q Q' hq h => by
  unfold fAdd at h ⊢
  split at h
  · exact hq _ h
  · exact ⟨h.1, hq _ h.2⟩
  · exact ⟨h.1, hq _ h.2⟩
  · exact h
theorem Rep.new (r : Rep T K G ρ σ H) {p : Addr} {o : HO} (h : H p = none) : Rep T K G ρ σ (upd H p o) ∧ ExtN (hide G.O H) (hide G.O (upd H p o)) ∧ p ∉ G.O ∧ hide G.O (upd H p o) p = some o := by
  have np : p ∉ G.O := fun z => by obtain ⟨o, e, _⟩ := r.dom p z; rw [h] at e; cases e
  have al : ∀ b o', H b = some o' → upd H p o b = some o' := fun b o' e => by rw [upd_ne (ne_of_none e h)]; exact e
  exact ⟨r.alloc al, ext_hide fun b o' _ e _ => al b o' e, np, by rw [hide_out np, upd_same]⟩
theorem opD_add : OpD T X (binaryOp .Add) fAdd := by
  intro pins s σ0 H x y v u Q I rx ry q
  obtain ⟨G, ρ, σ, d, e, r, tx, ty, q⟩ := q
  unfold fAdd at q
  split at q
  · rename_i i j
    exact op_add pins s σ0 H x y v u Q I rx ry ⟨i, j, tx.int, ty.int, q _ H r (.int _)⟩
  · rename_i i j
    exact op_add_str pins s σ0 H x y v u Q I rx ry ⟨i, j, tx.str, ty.str, q.1, q.2 _ H r (.str _)⟩
  · obtain ⟨a, xs, rfl, ha', ha, hx⟩ := tx.tup
    obtain ⟨b, ys, rfl, hb', hb, hy⟩ := ty.tup
    refine op_catA pins s σ0 H _ _ v u Q I rx ry ⟨a, b, xs, ys, rfl, rfl, ha, hb, by rw [hx.length, hy.length]; exact q.1, fun ex => ?_, fun _ ey => ?_, fun _ _ p hp => ?_⟩
    · subst ex
      cases hx
      exact q.2 _ H r hb'
    · subst ey
      cases hy
      refine q.2 _ H r ?_
      rw [List.append_nil]
      exact ha'
    · obtain ⟨r', e', np, hh⟩ := r.new (o := .tup (xs ++ ys)) hp
      exact q.2 _ _ r' (.tup hh ((hx.append hy).ext e'))
  · exact q.elim
theorem iopD_addS : OpD T X (inplaceOp .Add) (fun x y Q => match x, y with | .int i, .int j => Q (.int (i + j)) | .str x, .str y => x.length + y.length ≤ sizeLine ∧ Q (.str (x ++ y)) | _, _ => False) := by
  intro pins s σ0 H x y v u Q I rx ry q
  obtain ⟨G, ρ, σ, d, e, r, tx, ty, q⟩ := q
  simp only at q
  split at q
  · rename_i i j
    exact iop_add pins s σ0 H x y v u Q I rx ry ⟨i, j, tx.int, ty.int, q _ H r (.int _)⟩
  · rename_i i j
    exact iop_add_str pins s σ0 H x y v u Q I rx ry ⟨i, j, tx.str, ty.str, q.1, q.2 _ H r (.str _)⟩
  · exact q.elim
/-- xs + ys, new -/
def fCat : PyData → PyData → (PyData → Prop) → Prop
  | .list xs, .list ys, Q => xs.length + ys.length ≤ sizeLine ∧ Q (.list (xs ++ ys))
  | _, _, _ => False
theorem mono_cat : MonoF fCat := fun x y Q Q' hq h => by
  unfold fCat at h ⊢
  split at h
  · exact ⟨h.1, hq _ h.2⟩
  · exact h
theorem Rep.newL (r : Rep T K G ρ σ H) {p : Addr} {vs : List V} {ds : List PyData} (h : H p = none) (a : DaAll K (hide G.O H) vs ds) :
    Rep T K ⟨G.Hb, p :: G.O, G.fl⟩ ρ σ (upd H p (.lst vs)) ∧ p ∉ G.O ∧ Apt ρ σ p ∧ upd H p (.lst vs) p = some (.lst vs) ∧ DaAll K (hide (p :: G.O) (upd H p (.lst vs))) vs ds := by
  obtain ⟨r', eh, na, ap⟩ := r.own (o := .lst vs) h (fun ps z => by cases z)
  exact ⟨r', na, ap, upd_same, by rw [eh]; exact a⟩
theorem opF_cat : OpF T X (binaryOp .Add) fCat := by
  intro pins s σ0 H x y v u Q I rx ry q
  obtain ⟨G, ρ, σ, d, e, r, tx, ty, q⟩ := q
  unfold fCat at q
  split at q
  · obtain ⟨a, xs, rfl, ha, hx⟩ := tx.da
    obtain ⟨b, ys, rfl, hb, hy⟩ := ty.da
    refine op_cat pins s σ0 H _ _ v u Q I rx ry ⟨a, b, xs, ys, rfl, rfl, ha, hb, by rw [hx.length, hy.length]; exact q.1, fun p hp => ?_⟩
    obtain ⟨r', na, ap, h1, h2⟩ := r.newL hp (hx.append hy)
    exact q.2 p _ _ _ rfl r' na ap h1 h2
  · exact q.elim
/-- xs * n, new -/
def fRep : PyData → PyData → (PyData → Prop) → Prop
  | .list xs, .int k, Q => (-(2 ^ 63) ≤ k ∧ k < 2 ^ 63 ∧ xs.length * k.toNat ≤ sizeLine) ∧ Q (.list (List.replicate k.toNat xs).flatten)
  | _, _, _ => False
theorem mono_rep : MonoF fRep := fun x y Q Q' hq h => by
  unfold fRep at h ⊢
  split at h
  · exact ⟨h.1, hq _ h.2⟩
  · exact h
theorem daAll_rep {vs : List V} {ds : List PyData} (h : DaAll K H vs ds) : ∀ n : Nat, DaAll K H (List.replicate n vs).flatten (List.replicate n ds).flatten
  | 0 => .nil
  | n + 1 => by
    rw [List.replicate_succ, List.replicate_succ, List.flatten_cons, List.flatten_cons]
    exact h.append (daAll_rep h n)
theorem opF_rep : OpF T X (binaryOp .Mult) fRep := by
  intro pins s σ0 H x y v u Q I rx ry q
  obtain ⟨G, ρ, σ, d, e, r, tx, ty, q⟩ := q
  unfold fRep at q
  split at q
  · rename_i xs0 k
    obtain ⟨a, xs, rfl, ha, hx⟩ := tx.da
    refine op_rep pins s σ0 H _ _ v u Q I rx ry ⟨a, k, xs, rfl, ty.int, ha, q.1.1, q.1.2.1, by rw [hx.length]; exact q.1.2.2, fun p hp => ?_⟩
    obtain ⟨r', na, ap, h1, h2⟩ := r.newL hp (daAll_rep hx k.toNat)
    exact q.2 p _ _ _ rfl r' na ap h1 h2
  · exact q.elim
/-- i * j; a text n times -/
def repS (x : Str) (n : Nat) : Str := ⟨(List.replicate n x.cps).foldl (· ++ ·) #[]⟩
def fMul : PyData → PyData → (PyData → Prop) → Prop
  | .int i, .int j, Q => CMul i j ∧ Q (.int (i * j))
  | .str x, .int n, Q => (-(2 ^ 63) ≤ n ∧ x.length * n.toNat ≤ sizeLine ∧ n < 2 ^ 20) ∧ Q (.str (repS x n.toNat))
  | _, _, _ => False
theorem mono_mul : MonoF fMul := fun x y Q Q' hq h => by
  unfold fMul at h ⊢
  split at h
  · exact ⟨h.1, hq _ h.2⟩
  · exact ⟨h.1, hq _ h.2⟩
  · exact h
def Pl (d : PyData) : Prop := d.plain = true ∧ d.depth ≤ 30
def fEq (neg : Bool) : PyData → PyData → (PyData → Prop) → Prop := fun x y Q => (Pl x ∧ Pl y) ∧ Q (.bool (if neg then !PyData.eqv x y else PyData.eqv x y))
theorem mono_eq {n : Bool} : MonoF (fEq n) := fun _ _ _ _ hq h => ⟨h.1, hq _ h.2⟩
theorem opD_eq {k : Nat} (hr : Room k X.A) : OpD T X (compareOp .Eq) (fEq false) := by
  intro pins s σ0 H x y v u Q I rx ry q
  obtain ⟨G, ρ, σ, d, e, r, tx, ty, ⟨⟨pd, dd⟩, pe, de⟩, q⟩ := q
  obtain ⟨as, r1⟩ := Dp.reads I d x v ((tx.whole pd).dp pd) rx
  obtain ⟨bs, r2⟩ := Dp.reads I e y u ((ty.whole pe).dp pe) ry
  exact SeqAt.eq_plain r1 r2 pd pe (by have := hr.un; have : min d.depth e.depth ≤ d.depth := Nat.min_le_left _ _; omega) ⟨.bl _, H, I, rfl, q _ H r (.bl _)⟩
theorem opD_ne {k : Nat} (hr : Room k X.A) : OpD T X (compareOp .NotEq) (fEq true) := by
  intro pins s σ0 H x y v u Q I rx ry q
  obtain ⟨G, ρ, σ, d, e, r, tx, ty, ⟨⟨pd, dd⟩, pe, de⟩, q⟩ := q
  obtain ⟨as, r1⟩ := Dp.reads I d x v ((tx.whole pd).dp pd) rx
  obtain ⟨bs, r2⟩ := Dp.reads I e y u ((ty.whole pe).dp pe) ry
  exact SeqAt.ne_plain r1 r2 pd pe (by have := hr.un; have : min d.depth e.depth ≤ d.depth := Nat.min_le_left _ _; omega) ⟨.bl _, H, I, rfl, q _ H r (.bl _)⟩
/-- order, of data place by place alike -/
def fOrd (g : PyData → PyData → Bool) : PyData → PyData → (PyData → Prop) → Prop := fun x y Q => (Pl x ∧ Pl y ∧ PySem.W.alike x y = true ∧ x ≠ .none) ∧ Q (.bool (g x y))
theorem mono_ord {g : PyData → PyData → Bool} : MonoF (fOrd g) := fun _ _ _ _ hq h => ⟨h.1, hq _ h.2⟩
theorem opD_ge {k : Nat} (hr : Room k X.A) : OpD T X (compareOp .GtE) (fOrd fun x y => !PySem.W.dataLt x y) := by
  intro pins s σ0 H x y v u Q I rx ry q
  obtain ⟨G, ρ, σ, d, e, r, tx, ty, ⟨⟨pd, dd⟩, ⟨pe, de⟩, al, nn⟩, q⟩ := q
  obtain ⟨as, r1⟩ := Dp.reads I d x v ((tx.whole pd).dp pd) rx
  obtain ⟨bs, r2⟩ := Dp.reads I e y u ((ty.whole pe).dp pe) ry
  exact PySem.W.ge_data r1 r2 al nn (by have := hr.un; have : min d.depth e.depth ≤ d.depth := Nat.min_le_left _ _; omega) ⟨.bl _, H, I, rfl, q _ H r (.bl _)⟩
/-- of ints -/
def fC (g : Int → Int → Bool) : PyData → PyData → (PyData → Prop) → Prop
  | .int i, .int j, Q => Q (.bool (g i j))
  | _, _, _ => False
theorem mono_fC {g : Int → Int → Bool} : MonoF (fC g) := fun x y Q Q' hq h => by
  unfold fC at h ⊢
  split at h
  · exact hq _ h
  · exact h
theorem opD_cmp {f : Value → Value → Sem Value} {g : Int → Int → Bool} (h : OpR X f (rI0 fun i j => .bl (g i j))) : OpD T X f (fC g) := by
  intro pins s σ0 H x y v u Q I rx ry q
  obtain ⟨G, ρ, σ, d, e, r, tx, ty, q⟩ := q
  unfold fC at q
  split at q
  · rename_i i j
    exact h pins s σ0 H x y v u Q I rx ry ⟨i, j, tx.int, ty.int, q _ H r (.bl _)⟩
  · exact q.elim
theorem opD_ltI : OpD T X (compareOp .Lt) (fC fun i j => decide (i < j)) := opD_cmp op_lt
theorem opD_leI : OpD T X (compareOp .LtE) (fC fun i j => decide (i ≤ j)) := opD_cmp op_le
theorem opD_gtI : OpD T X (compareOp .Gt) (fC fun i j => decide (j < i)) := opD_cmp op_gt
theorem opD_geI : OpD T X (compareOp .GtE) (fC fun i j => decide (j ≤ i)) := opD_cmp op_ge
/-- is None -/
def isN : PyData → Bool
  | .none => true
  | _ => false
theorem isN_of {v : V} {d : PyData} {D0 O : List Addr} (h : Top K D0 O H v d) : decide (v = .non) = isN d := by
  cases h with
  | sh h => cases h with
    | ob h => obtain ⟨a, rfl⟩ := h.ref; rfl
    | _ => rfl
  | ol => rfl
  | ok => rfl
  | ot => rfl
theorem opD_isN : OpD T X (compareOp .Is) (fun x y Q => y = .none ∧ Q (.bool (isN x))) := by
  intro pins s σ0 H x y v u Q I rx ry q
  obtain ⟨G, ρ, σ, d, e, r, tx, ty, rfl, q⟩ := q
  exact op_isN pins s σ0 H x y v u Q I rx ry ⟨ty.non, by rw [isN_of tx]; exact q _ H r (.bl _)⟩
theorem inroom {k u a b : Nat} (hu : u + 16 * k + 200 < cLine) (dd : b ≤ 30) : u + 1 + min a b < cLine := by
  have : min a b ≤ b := Nat.min_le_right _ _
  omega
/-- x in xs; a text in a text -/
def fIn (neg : Bool) : PyData → PyData → (PyData → Prop) → Prop
  | x, .list ys, Q => (Pl x ∧ Pl (.list ys)) ∧ Q (.bool (if neg then !(ys.any fun z => PyData.eqv z x) else ys.any fun z => PyData.eqv z x))
  | x, .tuple ys, Q => (Pl x ∧ Pl (.tuple ys)) ∧ Q (.bool (if neg then !(ys.any fun z => PyData.eqv z x) else ys.any fun z => PyData.eqv z x))
  | .str a, .str b, Q => Q (.bool (if neg then !(!(Builtin.Str.occurrences b a 0 b.length 1).isEmpty) else !(Builtin.Str.occurrences b a 0 b.length 1).isEmpty))
  | _, _, _ => False
theorem mono_in {n : Bool} : MonoF (fIn n) := fun x y Q Q' hq h => by
  unfold fIn at h ⊢
  split at h
  · exact ⟨h.1, hq _ h.2⟩
  · exact ⟨h.1, hq _ h.2⟩
  · exact hq _ h
  · exact h
theorem opD_in {k : Nat} (hr : Room k X.A) : OpD T X (compareOp .In) (fIn false) := by
  intro pins s σ0 H x y v u Q I rx ry q
  obtain ⟨G, ρ, σ, d, e, r, tx, ty, q⟩ := q
  have hu := hr.un
  unfold fIn at q
  split at q
  · rename_i ys
    obtain ⟨⟨⟨pd, dd⟩, pe, de⟩, q⟩ := q
    obtain ⟨as, r1⟩ := Dp.reads I _ x v ((tx.whole pd).dp pd) rx
    obtain ⟨bs, r2⟩ := Dp.reads I _ y u ((ty.whole pe).dp pe) ry
    exact SeqAt.in_list_data r2 r1 (by simpa [PyData.plain] using pe) pd (inroom hu dd) ⟨.bl _, H, I, rfl, q _ H r (.bl _)⟩
  · rename_i ys
    obtain ⟨⟨⟨pd, dd⟩, pe, de⟩, q⟩ := q
    obtain ⟨as, r1⟩ := Dp.reads I _ x v ((tx.whole pd).dp pd) rx
    obtain ⟨bs, r2⟩ := Dp.reads I _ y u ((ty.whole pe).dp pe) ry
    exact SeqAt.in_tuple_data r2 r1 (by simpa [PyData.plain] using pe) pd (inroom hu dd) ⟨.bl _, H, I, rfl, q _ H r (.bl _)⟩
  · rename_i i j
    exact op_in_str pins s σ0 H x y v u Q I rx ry ⟨i, j, tx.str, ty.str, q _ H r (.bl _)⟩
  · exact q.elim
theorem opD_notIn {k : Nat} (hr : Room k X.A) : OpD T X (compareOp .NotIn) (fIn true) := by
  intro pins s σ0 H x y v u Q I rx ry q
  obtain ⟨G, ρ, σ, d, e, r, tx, ty, q⟩ := q
  have hu := hr.un
  unfold fIn at q
  split at q
  · rename_i ys
    obtain ⟨⟨⟨pd, dd⟩, pe, de⟩, q⟩ := q
    obtain ⟨as, r1⟩ := Dp.reads I _ x v ((tx.whole pd).dp pd) rx
    obtain ⟨bs, r2⟩ := Dp.reads I _ y u ((ty.whole pe).dp pe) ry
    exact SeqAt.notIn_list_data r2 r1 (by simpa [PyData.plain] using pe) pd (inroom hu dd) ⟨.bl _, H, I, rfl, q _ H r (.bl _)⟩
  · rename_i ys
    obtain ⟨⟨⟨pd, dd⟩, pe, de⟩, q⟩ := q
    obtain ⟨as, r1⟩ := Dp.reads I _ x v ((tx.whole pd).dp pd) rx
    obtain ⟨bs, r2⟩ := Dp.reads I _ y u ((ty.whole pe).dp pe) ry
    exact SeqAt.notIn_tuple_data r2 r1 (by simpa [PyData.plain] using pe) pd (inroom hu dd) ⟨.bl _, H, I, rfl, q _ H r (.bl _)⟩
  · rename_i i j
    exact op_notin_str pins s σ0 H x y v u Q I rx ry ⟨i, j, tx.str, ty.str, q _ H r (.bl _)⟩
  · exact q.elim
end
end PL
set_option Elab.async false
set_option linter.all false
set_option maxRecDepth 100000
set_option maxHeartbeats 2000000
namespace PL
open PySem PySem.Spec PyProof.Rows L2
open LamX (ExtN Tabs TabS)
section
variable {T : Tb} {X : Cx} {W : WX} {pos : Pos} {e a b c : Expr} {K : PySem.W.Frag} {G : Gh} {ρ : En} {σ : L2.St} {H H' : Hp}
def wT (w : PW) : PWB := fun ρ Q E => w ρ (fun d => match d with | .bool k => Q k | _ => False) E
theorem mono_T {w : PW} (m : Mono w) : Mono (wT w) := fun ρ Q Q' E E' hq he h => m _ _ _ _ _ (fun d hd => by cases d <;> first | exact hq _ hd | exact hd) he h
theorem dt_val {w : PW} (h : DE T X W e w) (he : ∀ whole, isTrue e X.env whole = (do let v ← whole; standAt e.pos; holding [v] (truthy v)) := by intro _; rfl) : DT T X W e (wT w) :=
  ⟨pt_mono (pt_val h.pe he) fun σ H Q q => by
    obtain ⟨G, ρ, r, q⟩ := q
    refine ⟨G, ρ, r, h.mono _ _ _ _ _ (fun d hd v H' r' a => ?_) (fun _ z => z) q⟩
    cases a <;> first | exact ⟨_, rfl, hd H' r'⟩ | exact hd.elim, mono_T h.mono⟩
theorem dt_cmp {op : CmpOp} {f : PyData → PyData → (PyData → Prop) → Prop} {wa wb : PW} (ho : OpD T X (compareOp op) f) (mf : MonoF f) (ha : DR T X W a wa) (hb : DR T X W b wb) (hm : behindInMarks op b = false) : DT T X W (.Compare a [op] [b] pos) (wT (w2 f wa wb)) :=
  ⟨pt_mono (pt_cmpR ho ha.pe hb.pe hm) fun σ H Q q => by
    obtain ⟨G, ρ, r, q⟩ := q
    refine both (P := fun x y => f x y fun d => match d with | .bool k => ∀ H', Rep T X.K G ρ σ H' → Q k H' | _ => False) ha.mono hb.mono r (fun v u H' x y r' e tv tu p => ⟨G, ρ, σ, x, y, r', tv, tu, mf _ _ _ _ (fun d hd v H'' r'' a => ?_) p⟩) q
    cases a <;> first | exact ⟨_, rfl, hd H'' r''⟩ | exact hd.elim, mono_T (mono_2 mf ha.mono hb.mono)⟩
def wNot (w : PWB) : PWB := fun ρ Q E => w ρ (fun b => Q (!b)) E
theorem dt_not {w : PWB} (h : DT T X W a w) : DT T X W (.UnaryOp .Not a pos) (wNot w) :=
  ⟨pt_mono (pt_not h.pt) fun σ H Q q => by
    obtain ⟨G, ρ, r, q⟩ := q
    exact ⟨G, ρ, r, q⟩, fun ρ Q Q' E E' hq he q => h.mono _ _ _ _ _ (fun b hb => hq _ hb) he q⟩
structure DW (T : Tb) (X : Cx) (W : WX) (e : Expr) (w : PWB) : Prop where
  pw : L2.PW X e (liftB T X.K W w)
  mono : Mono w
def wAnd (u v : PWB) : PWB := fun ρ Q E => u ρ (fun b => if b = true then v ρ Q E else Q false) E
def wOr (u v : PWB) : PWB := fun ρ Q E => u ρ (fun b => if b = true then Q true else v ρ Q E) E
theorem mono_And {u v : PWB} (mu : Mono u) (mv : Mono v) : Mono (wAnd u v) := fun ρ Q Q' E E' hq he h => mu _ _ _ _ _ (fun b hb => by
  by_cases z : b = true
  · rw [if_pos z] at hb ⊢; exact mv _ _ _ _ _ hq he hb
  · rw [if_neg z] at hb ⊢; exact hq _ hb) he h
theorem mono_Or {u v : PWB} (mu : Mono u) (mv : Mono v) : Mono (wOr u v) := fun ρ Q Q' E E' hq he h => mu _ _ _ _ _ (fun b hb => by
  by_cases z : b = true
  · rw [if_pos z] at hb ⊢; exact hq _ hb
  · rw [if_neg z] at hb ⊢; exact mv _ _ _ _ _ hq he hb) he h
theorem pw_mono {X : Cx} {e : Expr} {t t' : TT} (h : L2.PW X e t) (i : ∀ σ H Q, t' σ H Q → t σ H Q) : L2.PW X e t' := ⟨fun whole pins s σ H Q I q => h.run whole pins s σ H Q I (i _ _ _ q)⟩
theorem dw_and1 {w : PWB} (h : DT T X W a w) : DW T X W (.BoolOp .And [a] pos) w := ⟨pw_and1 h.pt, h.mono⟩
theorem dw_or1 {w : PWB} (h : DT T X W a w) : DW T X W (.BoolOp .Or [a] pos) w := ⟨pw_or1 h.pt, h.mono⟩
theorem dw_and {u v : PWB} {rest : List Expr} (ha : DT T X W a u) (hb : DW T X W (.BoolOp .And (b :: rest) pos) v) : DW T X W (.BoolOp .And (a :: b :: rest) pos) (wAnd u v) :=
  ⟨pw_mono (pw_and ha.pt hb.pw) fun σ H Q q => by
    obtain ⟨G, ρ, r, q⟩ := q
    refine liftB_intro ha.mono r (ha.mono _ _ _ _ _ (fun k hk H1 r1 e1 => ?_) (fun _ z => z) q)
    by_cases z : k = true
    · rw [if_pos z] at hk ⊢; exact ⟨G, ρ, r1, hk⟩
    · rw [if_neg z] at hk ⊢; exact hk H1 r1, mono_And ha.mono hb.mono⟩
theorem dw_or {u v : PWB} {rest : List Expr} (ha : DT T X W a u) (hb : DW T X W (.BoolOp .Or (b :: rest) pos) v) : DW T X W (.BoolOp .Or (a :: b :: rest) pos) (wOr u v) :=
  ⟨pw_mono (pw_or ha.pt hb.pw) fun σ H Q q => by
    obtain ⟨G, ρ, r, q⟩ := q
    refine liftB_intro ha.mono r (ha.mono _ _ _ _ _ (fun k hk H1 r1 e1 => ?_) (fun _ z => z) q)
    by_cases z : k = true
    · rw [if_pos z] at hk ⊢; exact hk H1 r1
    · rw [if_neg z] at hk ⊢; exact ⟨G, ρ, r1, hk⟩, mono_Or ha.mono hb.mono⟩
theorem dt_bool {w : PWB} (h : DW T X W e w) : DT T X W e w := ⟨L2.PW.pt h.pw, h.mono⟩
def wNotV (w : PW) : PW := fun ρ Q E => w ρ (fun d => match d with | .bool k => Q (.bool (!k)) | _ => False) E
theorem de_not {w : PW} (h : DE T X W a w) : DE T X W (.UnaryOp .Not a pos) (wNotV w) :=
  ⟨pe_mono (pe_not h.pe) fun σ H Q q => by
    obtain ⟨G, ρ, r, q⟩ := q
    refine ⟨G, ρ, r, h.mono _ _ _ _ _ (fun d hd v H' r' a => ?_) (fun _ z => z) q⟩
    cases a <;> first | exact ⟨_, rfl, hd _ H' r' (.bl _)⟩ | exact hd.elim, fun ρ Q Q' E E' hq he q => h.mono _ _ _ _ _ (fun d hd => by cases d <;> first | exact hq _ hd | exact hd) he q⟩
def wAndV (u v : PW) : PW := fun ρ Q E => u ρ (fun d => match d with | .bool true => v ρ Q E | .bool false => Q (.bool false) | _ => False) E
def wOrV (u v : PW) : PW := fun ρ Q E => u ρ (fun d => match d with | .bool true => Q (.bool true) | .bool false => v ρ Q E | _ => False) E
theorem de_one {op} {w : PW} (h : DE T X W a w) : DE T X W (.BoolOp op [a] pos) w := ⟨pe_one h.pe, h.mono⟩
theorem de_and {u v : PW} {rest : List Expr} (ha : DE T X W a u) (hb : DE T X W (.BoolOp .And (b :: rest) pos) v) : DE T X W (.BoolOp .And (a :: b :: rest) pos) (wAndV u v) :=
  ⟨pe_mono (pe_and ha.pe hb.pe) fun σ H Q q => by
    obtain ⟨G, ρ, r, q⟩ := q
    refine ⟨G, ρ, r, ha.mono _ _ _ _ _ (fun d hd v H' r' a => ?_) (fun _ z => z) q⟩
    cases a with
    | bl k =>
      refine ⟨k, rfl, ?_⟩
      cases k with
      | true => exact ⟨G, ρ, r', hd⟩
      | false => exact hd _ H' r' (.bl _)
    | _ => exact hd.elim, fun ρ Q Q' E E' hq he q => ha.mono _ _ _ _ _ (fun d hd => by
      split at hd
      · exact hb.mono _ _ _ _ _ hq he hd
      · exact hq _ hd
      · exact hd.elim) he q⟩
theorem de_or {u v : PW} {rest : List Expr} (ha : DE T X W a u) (hb : DE T X W (.BoolOp .Or (b :: rest) pos) v) : DE T X W (.BoolOp .Or (a :: b :: rest) pos) (wOrV u v) :=
  ⟨pe_mono (pe_or ha.pe hb.pe) fun σ H Q q => by
    obtain ⟨G, ρ, r, q⟩ := q
    refine ⟨G, ρ, r, ha.mono _ _ _ _ _ (fun d hd v H' r' a => ?_) (fun _ z => z) q⟩
    cases a with
    | bl k =>
      refine ⟨k, rfl, ?_⟩
      cases k with
      | true => exact hd _ H' r' (.bl _)
      | false => exact ⟨G, ρ, r', hd⟩
    | _ => exact hd.elim, fun ρ Q Q' E E' hq he q => ha.mono _ _ _ _ _ (fun d hd => by
      split at hd
      · exact hq _ hd
      · exact hb.mono _ _ _ _ _ hq he hd
      · exact hd.elim) he q⟩
def wCh (f g : PyData → PyData → (PyData → Prop) → Prop) (wa wb wc : PW) : PW := fun ρ Q E => wa ρ (fun x => wb ρ (fun y => f x y fun z => match z with
  | .bool true => wc ρ (fun w => g y w Q) E
  | .bool false => Q (.bool false)
  | _ => False) E) E
theorem mono_Ch {f g : PyData → PyData → (PyData → Prop) → Prop} {wa wb wc : PW} (mf : MonoF f) (mg : MonoF g) (ma : Mono wa) (mb : Mono wb) (mc : Mono wc) : Mono (wCh f g wa wb wc) := fun ρ Q Q' E E' hq he h =>
  ma _ _ _ _ _ (fun x hx => mb _ _ _ _ _ (fun y hy => mf _ _ _ _ (fun z hz => by
    split at hz
    · exact mc _ _ _ _ _ (fun w hw => mg _ _ _ _ hq hw) he hz
    · exact hq _ hz
    · exact hz.elim) hy) he hx) he h
theorem chain_core {f g : PyData → PyData → (PyData → Prop) → Prop} {op op' : CmpOp} {wa wb wc : PW} {Q : VK} {G : Gh} {ρ : En} {σ : L2.St} {H : Hp} {P : PyData → Prop} (mf : MonoF f) (ha : DE T X W a wa) (hb : DE T X W b wb) (hc : DE T X W c wc) (r : Rep T X.K G ρ σ H)
    (hP : ∀ d v H', P d → Rep T X.K G ρ σ H' → Da X.K (hide G.O H') v d → Q v H') (mg : MonoF g)
    (q : wCh f g wa wb wc ρ P (exOut T X.K W G ρ σ)) :
    tChain (fun x y H Q => ∃ (G : Gh) (ρ : En) (σ : L2.St) (d e : PyData), Rep T X.K G ρ σ H ∧ Top X.K T.dc G.O H x d ∧ Top X.K T.dc G.O H y e ∧ f d e fun r => ∀ v H', Rep T X.K G ρ σ H' → Da X.K (hide G.O H') v r → Q v H')
      (fun x y H Q => ∃ (G : Gh) (ρ : En) (σ : L2.St) (d e : PyData), Rep T X.K G ρ σ H ∧ Top X.K T.dc G.O H x d ∧ Top X.K T.dc G.O H y e ∧ g d e fun r => ∀ v H', Rep T X.K G ρ σ H' → Da X.K (hide G.O H') v r → Q v H')
      (lift T X.K W wa) (lift T X.K W wb) (lift T X.K W wc) σ H Q := by
  refine lift_intro ha.mono r (ha.mono _ _ _ _ _ (fun x hx v1 H1 r1 e1 d1 => ?_) (fun _ z => z) q)
  refine lift_intro hb.mono r1 (hb.mono _ _ _ _ _ (fun y hy v2 H2 r2 e2 d2 => ?_) (fun _ z => z) hx)
  refine ⟨⟨hide G.O H2, G.O, G.fl⟩, ρ, σ, x, y, r2.rebase, .sh (d1.ext e2), .sh d2, mf _ _ _ _ (fun z hz v H3 r3 a3 => ?_) hy⟩
  have e3 := r3.ext
  have r3' : Rep T X.K G ρ σ H3 := r3.unbase r2.ext
  cases a3 with
  | bl k =>
    refine ⟨k, rfl, ?_⟩
    cases k with
    | true =>
      refine lift_intro hc.mono r3' (hc.mono _ _ _ _ _ (fun w hw v4 H4 r4 e4 d4 => ?_) (fun _ z => z) hz)
      exact ⟨G, ρ, σ, y, w, r4, .sh ((d2.ext e3).ext e4), .sh d4, mg _ _ _ _ (fun d hd v H' r' a => hP d v H' hd r' a) hw⟩
    | false => exact hP _ _ H3 hz r3' (.bl _)
  | _ => exact hz.elim
theorem de_chain {f g : PyData → PyData → (PyData → Prop) → Prop} {op op' : CmpOp} {wa wb wc : PW} (ho : OpD T X (compareOp op) f) (ho' : OpD T X (compareOp op') g) (mf : MonoF f) (mg : MonoF g) (ha : DE T X W a wa) (hb : DE T X W b wb) (hc : DE T X W c wc)
    (hm : lastMarks [op, op'] [b, c] = false := by with_unfolding_all rfl) : DE T X W (.Compare a [op, op'] [b, c] pos) (wCh f g wa wb wc) :=
  ⟨pe_mono (pe_chain ho ho' ha.pe hb.pe hc.pe hm) fun σ H Q q => by
    obtain ⟨G, ρ, r, q⟩ := q
    exact chain_core (op := op) (op' := op') mf ha hb hc r (fun d v H' h r' a => h v H' r' a) mg q, mono_Ch mf mg ha.mono hb.mono hc.mono⟩
theorem dt_chain {f g : PyData → PyData → (PyData → Prop) → Prop} {op op' : CmpOp} {wa wb wc : PW} (ho : OpD T X (compareOp op) f) (ho' : OpD T X (compareOp op') g) (mf : MonoF f) (mg : MonoF g) (ha : DE T X W a wa) (hb : DE T X W b wb) (hc : DE T X W c wc)
    (hm : lastMarks [op, op'] [b, c] = false := by with_unfolding_all rfl) : DT T X W (.Compare a [op, op'] [b, c] pos) (wT (wCh f g wa wb wc)) :=
  ⟨pt_mono (pt_chain ho ho' ha.pe hb.pe hc.pe hm) fun σ H Q q => by
    obtain ⟨G, ρ, r, q⟩ := q
    exact chain_core (op := op) (op' := op') (Q := fun x H' => ∃ k, x = .bl k ∧ Q k H') mf ha hb hc r (fun d v H' h r' a => by cases a <;> first | exact ⟨_, rfl, h H' r'⟩ | exact h.elim) mg q, mono_T (mono_Ch mf mg ha.mono hb.mono hc.mono)⟩
def wNil : PWs := fun _ Q _ => Q []
def wCons (w : PW) (ws : PWs) : PWs := fun ρ Q E => w ρ (fun d => ws ρ (fun ds => Q (d :: ds)) E) E
theorem da_nil : DA T X W [] wNil := ⟨⟨fun p pins s σ H Q I h => by
  obtain ⟨G, ρ, r, q⟩ := h
  exact pa_nil.run p pins s σ H Q I (q [] H r .nil)⟩, fun _ _ _ _ _ hq _ h => hq _ h⟩
theorem mono_cons {w : PW} {ws : PWs} (m : Mono w) (ms : Mono ws) : Mono (wCons w ws) := fun ρ Q Q' E E' hq he h => m _ _ _ _ _ (fun d hd => ms _ _ _ _ _ (fun ds hds => hq _ hds) he hd) he h
theorem da_cons {es : List Expr} {w : PW} {ws : PWs} (ha : DE T X W e w) (hr : DA T X W es ws) (hs : starEach (e :: es) X.env = (false, eval e X.env) :: starEach es X.env := by rfl) : DA T X W (e :: es) (wCons w ws) :=
  ⟨⟨fun p pins s σ H Q I h => (pa_cons ha.pe hr.pa hs).run p pins s σ H Q I (by
    obtain ⟨G, ρ, r, q⟩ := h
    refine lift_intro ha.mono r (ha.mono _ _ _ _ _ (fun d hd v H1 r1 e1 a1 => ?_) (fun _ z => z) q)
    refine liftA_intro hr.mono r1 (hr.mono _ _ _ _ _ (fun ds hds vs H2 r2 e2 a2 => ?_) (fun _ z => z) hd)
    exact hds _ H2 r2 (.cons (a1.ext e2) a2))⟩, mono_cons ha.mono hr.mono⟩
def wTup (ws : PWs) : PW := fun ρ Q E => ws ρ (fun ds => ds.length ≤ sizeLine ∧ Q (.tuple ds)) E
def wLst (ws : PWs) : PW := fun ρ Q E => ws ρ (fun ds => ds.length ≤ sizeLine ∧ Q (.list ds)) E
theorem de_tup {es : List Expr} {ws : PWs} {k} (h : DA T X W es ws) : DE T X W (.Tuple es k pos) (wTup ws) :=
  ⟨pe_mono (pe_tup h.pa) fun σ H Q q => by
    obtain ⟨G, ρ, r, q⟩ := q
    refine ⟨G, ρ, r, h.mono _ _ _ _ _ (fun ds hds vs H' r' a => ⟨by rw [a.length]; exact hds.1, fun p hp => ?_⟩) (fun _ z => z) q⟩
    obtain ⟨r2, e2, np, hh⟩ := r'.new (o := .tup vs) hp
    exact hds.2 _ _ r2 (.tup hh (a.ext e2)), fun ρ Q Q' E E' hq he q => h.mono _ _ _ _ _ (fun ds hd => ⟨hd.1, hq _ hd.2⟩) he q⟩
theorem df_lst {es : List Expr} {ws : PWs} (h : DA T X W es ws) : DF T X W (.List es pos) (wLst ws) :=
  ⟨pe_mono (pe_lst h.pa) fun σ H Q q => by
    obtain ⟨G, ρ, r, q⟩ := q
    refine ⟨G, ρ, r, h.mono _ _ _ _ _ (fun ds hds vs H' r' a => ⟨by rw [a.length]; exact hds.1, fun p hp => ?_⟩) (fun _ z => z) q⟩
    obtain ⟨r2, na, ap, h1, h2⟩ := r'.newL hp a
    exact hds.2 p _ _ _ rfl r2 na ap h1 h2, fun ρ Q Q' E E' hq he q => h.mono _ _ _ _ _ (fun ds hd => ⟨hd.1, hq _ hd.2⟩) he q⟩
def fIx : PyData → PyData → (PyData → Prop) → Prop
  | .list xs, .int i, Q => match atI xs i with | some d => Q d | none => False
  | .tuple xs, .int i, Q => match atI xs i with | some d => Q d | none => False
  | .str z, .int i, Q => z.length ≤ sizeLine ∧ match atI z.cps.toList i with | some c => Q (.str ⟨#[c]⟩) | none => False
  | _, _, _ => False
theorem mono_ix : MonoF fIx := fun x y Q Q' hq h => by
  unfold fIx at h ⊢
  split at h
  · split at h
    · exact hq _ h
    · exact h
  · split at h
    · exact hq _ h
    · exact h
  · refine ⟨h.1, ?_⟩
    have h2 := h.2
    split at h2
    · exact hq _ h2
    · exact h2
  · exact h
theorem atI_da {vs : List V} {ds : List PyData} {i : Int} {d : PyData} (h : DaAll K H vs ds) (e : atI ds i = some d) : ∃ v, atI vs i = some v ∧ Da K H v d := by
  unfold atI at e ⊢
  rw [h.length]
  cases z : ixN ds.length i with
  | none => rw [z] at e; cases e
  | some j =>
    rw [z] at e
    obtain ⟨v, h1, h2⟩ := h.getD (i := j) e
    exact ⟨v, h1, h2⟩
theorem ixR_d : IxR X fun x y H Q => ∃ (G : Gh) (ρ : En) (σ : L2.St) (d e : PyData), Rep T X.K G ρ σ H ∧ Top X.K T.dc G.O H x d ∧ Top X.K T.dc G.O H y e ∧ fIx d e fun r => ∀ v H', Rep T X.K G ρ σ H' → Da X.K (hide G.O H') v r → Q v H' := by
  intro value slice pins s σ0 H x y v u Q I rx ry q hs
  obtain ⟨G, ρ, σ, d, e, r, tx, ty, q⟩ := q
  unfold fIx at q
  split at q
  · split at q
    · rename_i d' hd
      obtain ⟨a, xs, rfl, ha, hx⟩ := tx.da
      obtain ⟨w, h1, h2⟩ := atI_da hx hd
      exact ix_list value slice pins s σ0 H _ y v u Q I rx ry ⟨a, xs, _, w, rfl, ty.int, SqL.of ha, h1, q _ H r h2⟩ hs
    · exact q.elim
  · split at q
    · rename_i d' hd
      obtain ⟨a, xs, rfl, _, ha, hx⟩ := tx.tup
      obtain ⟨w, h1, h2⟩ := atI_da hx hd
      exact ix_tup value slice pins s σ0 H _ y v u Q I rx ry ⟨a, xs, _, w, rfl, ty.int, ha, h1, q _ H r h2⟩ hs
    · exact q.elim
  · obtain ⟨hz, q⟩ := q
    split at q
    · rename_i c' hc
      exact ix_str value slice pins s σ0 H x y v u Q I rx ry ⟨_, _, c', tx.str, ty.int, hz, hc, q _ H r (.str _)⟩ hs
    · exact q.elim
  · exact q.elim
theorem de_ix {wa wb : PW} (ha : DR T X W a wa) (hb : DR T X W b wb) (hs : PlainIx b := by intro _ _; rfl) : DE T X W (.Subscript a b pos) (w2 fIx wa wb) :=
  ⟨pe_mono (pe_ix (ixR_d (T := T)) ha.pe hb.pe hs) fun σ H Q q => by
    obtain ⟨G, ρ, r, q⟩ := q
    exact both (P := fun x y => fIx x y fun d => ∀ v H', Rep T X.K G ρ σ H' → Da X.K (hide G.O H') v d → Q v H') ha.mono hb.mono r (fun v u H' x y r' e tv tu p => ⟨G, ρ, σ, x, y, r', tv, tu, p⟩) q, mono_2 mono_ix ha.mono hb.mono⟩
end
end PL
set_option Elab.async false
set_option linter.all false
set_option maxRecDepth 100000
set_option maxHeartbeats 2000000
namespace PL
open PySem PySem.Spec PyProof.Rows L2
open LamX (ExtN Tabs TabS)
section
variable {T : Tb} {X : Cx} {W : WX} {pos p : Pos} {e a b c : Expr} {K : PySem.W.Frag} {G : Gh} {ρ : En} {σ : L2.St} {H H' : Hp}
theorem Rep.hold {v : V} {d : PyData} (r : Rep T K G ρ σ H) (t : Top K T.dc G.O H v d) : ∃ G1 : Gh, G1.O = G.O ∧ Rep T K G1 ρ σ H ∧ ∀ H', Rep T K G1 ρ σ H' → Rep T K G ρ σ H' ∧ Top K T.dc G.O H' v d ∧ ExtN (hide G.O H) (hide G.O H') := by
  by_cases own : ∃ a o, v = .ref a ∧ a ∈ G.O ∧ a ∉ T.dc ∧ H a = some o
  · obtain ⟨a, o, ev, ha, nd, ho⟩ := own
    refine ⟨⟨hide G.O H, G.O, (a, o) :: G.fl⟩, rfl, (r.rebase).fly1 (G := ⟨hide G.O H, G.O, G.fl⟩) ha ho nd, fun H' r' => ?_⟩
    obtain ⟨r2, k⟩ := r'.land
    have e := r2.ext
    exact ⟨r2.unbase r.ext, t.ext e fun b eb hb _ => by rw [ev] at eb; cases eb; rw [show H' a = some o from k, ho], e⟩
  · refine ⟨⟨hide G.O H, G.O, G.fl⟩, rfl, r.rebase, fun H' r' => ⟨r'.unbase r.ext, t.ext r'.ext fun b eb hb nd => ?_, r'.ext⟩⟩
    obtain ⟨o, ho, _⟩ := r.dom b hb
    exact absurd ⟨b, o, eb, hb, nd, ho⟩ own
theorem exOut_hold {G1 : Gh} (eO : G1.O = G.O) (h : ∀ H', Rep T K G1 ρ σ H' → Rep T K G ρ σ H') (x : Exn) (hx : exOut T K W G ρ σ x) : exOut T K W G1 ρ σ x := fun H' cls dd r' q => hx H' cls dd (h H' r') (by rw [← eO]; exact q)
abbrev PWo := En → (Option Int → Prop) → (Exn → Prop) → Prop
def wNo : PWo := fun _ Q _ => Q none
def wSo (w : PW) : PWo := fun ρ Q E => w ρ (fun d => match d with | .int i => Q (some i) | _ => False) E
structure DO (T : Tb) (X : Cx) (W : WX) (e : Option Expr) (w : PWo) : Prop where
  po : ∃ t : TO, PO X e t ∧ ∀ G ρ σ H R, Rep T X.K G ρ σ H → w ρ (fun o => ∀ H', Rep T X.K G ρ σ H' → R o H') (exOut T X.K W G ρ σ) → t σ H R
  mono : Mono w
theorem do_none : DO T X W none wNo := ⟨⟨tNoPart, po_none, fun G ρ σ H R r h => h H r⟩, fun _ _ _ _ _ hq _ h => hq _ h⟩
theorem do_some {w : PW} (h : DE T X W e w) : DO T X W (some e) (wSo w) := ⟨⟨_, po_some h.pe, fun G ρ σ H R r q => ⟨G, ρ, r, h.mono _ _ _ _ _ (fun d hd v H' r' a => by cases a <;> first | exact ⟨_, rfl, hd H' r'⟩ | exact hd.elim) (fun _ z => z) q⟩⟩,
  fun ρ Q Q' E E' hq he q => h.mono _ _ _ _ _ (fun d hd => by cases d <;> first | exact hq _ hd | exact hd) he q⟩
def cutD (xs : List PyData) (lo hi : Option Int) : List PyData := (xs.drop (HT.sIx xs.length 0 lo)).take (HT.sIx xs.length xs.length hi - HT.sIx xs.length 0 lo)
theorem cut_da {vs : List V} {ds : List PyData} (h : DaAll K H vs ds) (lo hi : Option Int) : DaAll K H (cutV vs lo hi) (cutD ds lo hi) := by
  unfold cutV cutD
  rw [h.length]
  exact (h.drop _).take _
def fSlS (x : PyData) (lo hi : Option Int) (Q : PyData → Prop) : Prop := match x with
  | .tuple xs => Q (.tuple (cutD xs lo hi))
  | .str z => z.length ≤ sizeLine ∧ Q (.str (cutS z lo hi))
  | _ => False
def wSl (f : PyData → Option Int → Option Int → (PyData → Prop) → Prop) (w : PW) (wl wh : PWo) : PW := fun ρ Q E => w ρ (fun x => wl ρ (fun l => wh ρ (fun h => f x l h Q) E) E) E
theorem mono_Sl {f : PyData → Option Int → Option Int → (PyData → Prop) → Prop} {w : PW} {wl wh : PWo} (mf : ∀ x l h Q Q', (∀ d, Q d → Q' d) → f x l h Q → f x l h Q') (m : Mono w) (ml : Mono wl) (mh : Mono wh) : Mono (wSl f w wl wh) := fun ρ Q Q' E E' hq he q =>
  m _ _ _ _ _ (fun x hx => ml _ _ _ _ _ (fun l hl => mh _ _ _ _ _ (fun h hh => mf _ _ _ _ _ hq hh) he hl) he hx) he q
theorem mono_SlS : ∀ x l h Q Q', (∀ d, Q d → Q' d) → fSlS x l h Q → fSlS x l h Q' := fun x l h Q Q' hq q => by cases x <;> first | exact hq _ q | exact ⟨q.1, hq _ q.2⟩ | exact q
theorem sl_core {w : PW} {wl wh : PWo} {lo hi : Option Expr} {P : PyData → Option Int → Option Int → Prop} {R : V → Option Int → Option Int → Hp → Prop} {tl th : TO} (h : DR T X W e w) (ml : Mono wl) (mh : Mono wh)
    (hl : ∀ G ρ σ H R, Rep T X.K G ρ σ H → wl ρ (fun o => ∀ H', Rep T X.K G ρ σ H' → R o H') (exOut T X.K W G ρ σ) → tl σ H R) (hh : ∀ G ρ σ H R, Rep T X.K G ρ σ H → wh ρ (fun o => ∀ H', Rep T X.K G ρ σ H' → R o H') (exOut T X.K W G ρ σ) → th σ H R)
    (r : Rep T X.K G ρ σ H) (hR : ∀ v d l h H', P d l h → Rep T X.K G ρ σ H' → Top X.K T.dc G.O H' v d → R v l h H')
    (q : w ρ (fun x => wl ρ (fun l => wh ρ (fun h => P x l h) (exOut T X.K W G ρ σ)) (exOut T X.K W G ρ σ)) (exOut T X.K W G ρ σ)) :
    liftR T X.K W w σ H fun v H1 => tl σ H1 fun l H2 => th σ H2 fun u H3 => R v l u H3 := by
  refine ⟨G, ρ, r, h.mono _ _ _ _ _ (fun x hx v H1 r1 t1 => ?_) (fun _ z => z) q⟩
  obtain ⟨G1, eO, r1', keep⟩ := r1.hold t1
  refine hl G1 ρ σ H1 _ r1' (ml _ _ _ _ _ (fun l hl2 H2 r2 => ?_) (fun x hx => exOut_hold eO (fun H' z => (keep H' z).1) x hx) hx)
  refine hh G1 ρ σ H2 _ r2 (mh _ _ _ _ _ (fun u hu H3 r3 => ?_) (fun x hx => exOut_hold eO (fun H' z => (keep H' z).1) x hx) hl2)
  obtain ⟨r4, t4, _⟩ := keep H3 r3
  exact hR v x l u H3 hu r4 t4
theorem sl_d : SlR X fun x lo hi H Q => rSlA X.K x lo hi H Q ∨ rSlS x lo hi H Q := by
  intro pins s σ H x v vl vu lo hi sl Q I rx hs pl pu h
  rcases h with h | h
  · exact sl_tupA pins s σ H x v vl vu lo hi sl Q I rx hs pl pu h
  · exact sl_str pins s σ H x v vl vu lo hi sl Q I rx hs pl pu h
theorem cut_whole (xs : List PyData) (lo hi : Option Int) (h : HT.sIx xs.length 0 lo = 0 ∧ HT.sIx xs.length xs.length hi = xs.length) : cutD xs lo hi = xs := by
  unfold cutD
  rw [h.1, h.2, List.drop_zero, Nat.sub_zero, List.take_length]
theorem de_sl {w : PW} {wl wh : PWo} {lo hi : Option Expr} {p2 : Pos} (h : DR T X W e w) (hl : DO T X W lo wl) (hh : DO T X W hi wh) : DE T X W (.Subscript e (.Slice lo hi none p2) pos) (wSl fSlS w wl wh) := by
  obtain ⟨⟨tl, pl, ql⟩, ml⟩ := hl
  obtain ⟨⟨th, ph, qh⟩, mh⟩ := hh
  refine ⟨pe_mono (pe_slice sl_d h.pe pl ph) fun σ H Q q => ?_, mono_Sl mono_SlS h.mono ml mh⟩
  obtain ⟨G, ρ, r, q⟩ := q
  refine sl_core (lo := lo) (hi := hi) h ml mh ql qh r (fun v d l u H' hd r' t => ?_) q
  cases d with
  | tuple xs =>
    obtain ⟨a, vs, rfl, ha', ha, hx⟩ := t.tup
    refine .inl ⟨a, vs, rfl, ha, fun hw => hd _ H' r' ?_, fun _ p hp => ?_⟩
    · rw [cut_whole xs l u (by rw [← hx.length]; exact hw)]
      exact ha'
    · obtain ⟨r2, e2, np, h2⟩ := r'.new (o := .tup (cutV vs l u)) hp
      exact hd _ _ r2 (.tup h2 ((cut_da hx l u).ext e2))
  | str z =>
    have e := t.str
    subst e
    exact .inr ⟨z, rfl, hd.1, hd.2 _ H' r' (.str _)⟩
  | _ => exact hd.elim
def w1 (f : PyData → (PyData → Prop) → Prop) (w : PW) : PW := fun ρ Q E => w ρ (fun x => f x Q) E
def MonoF1 (f : PyData → (PyData → Prop) → Prop) : Prop := ∀ x Q Q', (∀ d, Q d → Q' d) → f x Q → f x Q'
theorem mono_1 {f : PyData → (PyData → Prop) → Prop} {w : PW} (mf : MonoF1 f) (m : Mono w) : Mono (w1 f w) := fun ρ Q Q' E E' hq he h => m _ _ _ _ _ (fun x hx => mf _ _ _ hq hx) he h
def CallD (T : Tb) (X : Cx) (g : Value) (f : PyData → (PyData → Prop) → Prop) : Prop :=
  CallR X g fun xs H Q => ∃ (x : V) (G : Gh) (ρ : En) (σ : L2.St) (d : PyData), xs = [x] ∧ Rep T X.K G ρ σ H ∧ Top X.K T.dc G.O H x d ∧ f d fun r => ∀ v H', Rep T X.K G ρ σ H' → Da X.K (hide G.O H') v r → Q v H'
def CallF (T : Tb) (X : Cx) (g : Value) (f : PyData → (PyData → Prop) → Prop) : Prop :=
  CallR X g fun xs H Q => ∃ (x : V) (G : Gh) (ρ : En) (σ : L2.St) (d : PyData), xs = [x] ∧ Rep T X.K G ρ σ H ∧ Top X.K T.dc G.O H x d ∧ f d fun r => ∀ a vs ds H', r = .list ds → Rep T X.K ⟨G.Hb, a :: G.O, G.fl⟩ ρ σ H' → a ∉ G.O → Apt ρ σ a → H' a = some (.lst vs) → DaAll X.K (hide (a :: G.O) H') vs ds → Q (.ref a) H'
theorem one_core {w : PW} {f : PyData → (PyData → Prop) → Prop} {Q : VK} {P : PyData → Prop} {R : List V → Hp → Prop} (h : DR T X W e w) (r : Rep T X.K G ρ σ H) (q : w ρ (fun d => f d P) (exOut T X.K W G ρ σ))
    (hR : ∀ v d H', f d P → Rep T X.K G ρ σ H' → Top X.K T.dc G.O H' v d → R [v] H') : tCons (liftR T X.K W w) tNil σ H R :=
  ⟨G, ρ, r, h.mono _ _ _ _ _ (fun d hd v H' r' t => hR v d H' hd r' t) (fun _ z => z) q⟩
theorem de_callB {x : Str} {id : String} {f : PyData → (PyData → Prop) → Prop} {w : PW} (hc : CallD T X (.builtin id) f) (mf : MonoF1 f) (hg : Gl X x) (hm : X.mg x = none) (hv : bootBuiltins x = some (.builtin id)) (h : DR T X W e w)
    (hn : x ≠ "__name__" := by decide) (hdb : (x == ("__debug__" : Str)) = false := by decide) (he : starEach [e] X.env = (false, eval e X.env) :: starEach [] X.env := by rfl) :
    DE T X W (.Call (.Name x p) [e] [] pos) (w1 f w) :=
  ⟨pe_mono (pe_callB hc hg hm hv (pa_cons h.pe pa_nil he) hn hdb he rfl) fun σ H Q q => by
    obtain ⟨G, ρ, r, q⟩ := q
    exact one_core (Q := Q) h r q fun v d H' hd r' t => ⟨v, G, ρ, σ, d, rfl, r', t, hd⟩, mono_1 mf h.mono⟩
theorem de_callTy {x : Str} {id : String} {f : PyData → (PyData → Prop) → Prop} {w : PW} (hc : CallD T X (.type id) f) (mf : MonoF1 f) (hg : Gl X x) (hm : X.mg x = none) (hv : bootBuiltins x = some (.type id)) (h : DR T X W e w)
    (hn : x ≠ "__name__" := by decide) (hdb : (x == ("__debug__" : Str)) = false := by decide) (he : starEach [e] X.env = (false, eval e X.env) :: starEach [] X.env := by rfl) :
    DE T X W (.Call (.Name x p) [e] [] pos) (w1 f w) :=
  ⟨pe_mono (pe_callTy hc hg hm hv (pa_cons h.pe pa_nil he) hn hdb he rfl) fun σ H Q q => by
    obtain ⟨G, ρ, r, q⟩ := q
    exact one_core (Q := Q) h r q fun v d H' hd r' t => ⟨v, G, ρ, σ, d, rfl, r', t, hd⟩, mono_1 mf h.mono⟩
theorem df_callB {x : Str} {id : String} {f : PyData → (PyData → Prop) → Prop} {w : PW} (hc : CallF T X (.builtin id) f) (mf : MonoF1 f) (hg : Gl X x) (hm : X.mg x = none) (hv : bootBuiltins x = some (.builtin id)) (h : DR T X W e w)
    (hn : x ≠ "__name__" := by decide) (hdb : (x == ("__debug__" : Str)) = false := by decide) (he : starEach [e] X.env = (false, eval e X.env) :: starEach [] X.env := by rfl) :
    DF T X W (.Call (.Name x p) [e] [] pos) (w1 f w) :=
  ⟨pe_mono (pe_callB hc hg hm hv (pa_cons h.pe pa_nil he) hn hdb he rfl) fun σ H Q q => by
    obtain ⟨G, ρ, r, q⟩ := q
    exact one_core (Q := Q) h r q fun v d H' hd r' t => ⟨v, G, ρ, σ, d, rfl, r', t, hd⟩, mono_1 mf h.mono⟩
theorem df_callTy {x : Str} {id : String} {f : PyData → (PyData → Prop) → Prop} {w : PW} (hc : CallF T X (.type id) f) (mf : MonoF1 f) (hg : Gl X x) (hm : X.mg x = none) (hv : bootBuiltins x = some (.type id)) (h : DR T X W e w)
    (hn : x ≠ "__name__" := by decide) (hdb : (x == ("__debug__" : Str)) = false := by decide) (he : starEach [e] X.env = (false, eval e X.env) :: starEach [] X.env := by rfl) :
    DF T X W (.Call (.Name x p) [e] [] pos) (w1 f w) :=
  ⟨pe_mono (pe_callTy hc hg hm hv (pa_cons h.pe pa_nil he) hn hdb he rfl) fun σ H Q q => by
    obtain ⟨G, ρ, r, q⟩ := q
    exact one_core (Q := Q) h r q fun v d H' hd r' t => ⟨v, G, ρ, σ, d, rfl, r', t, hd⟩, mono_1 mf h.mono⟩
/-- len -/
def fLen : PyData → (PyData → Prop) → Prop
  | .list xs, Q => Q (.int xs.length)
  | .tuple xs, Q => Q (.int xs.length)
  | .str z, Q => z.length ≤ sizeLine ∧ Q (.int z.length)
  | _, _ => False
theorem mono_len : MonoF1 fLen := fun x Q Q' hq h => by cases x <;> first | exact hq _ h | exact ⟨h.1, hq _ h.2⟩ | exact h
theorem cd_len : CallD T X (.builtin "len") fLen := by
  intro pins s σ0 H xs us Q I rx q
  obtain ⟨x, G, ρ, σ, d, rfl, r, t, q⟩ := q
  cases d with
  | list ds =>
    obtain ⟨a, vs, rfl, ha, hx⟩ := t.da
    exact call_len pins s σ0 H _ us Q I rx ⟨_, vs.length, rfl, .inl ⟨vs, SqL.of ha, rfl⟩, by rw [hx.length]; exact q _ H r (.int _)⟩
  | tuple ds =>
    obtain ⟨a, vs, rfl, _, ha, hx⟩ := t.tup
    exact call_len pins s σ0 H _ us Q I rx ⟨_, vs.length, rfl, .inr ⟨vs, ha, rfl⟩, by rw [hx.length]; exact q _ H r (.int _)⟩
  | str z =>
    have e := t.str
    subst e
    exact call_len pins s σ0 H _ us Q I rx ⟨_, z.length, rfl, ⟨q.1, rfl⟩, q.2 _ H r (.int _)⟩
  | _ => exact q.elim
/-- tuple(xs) -/
def fTuple : PyData → (PyData → Prop) → Prop
  | .list xs, Q => Q (.tuple xs)
  | .tuple xs, Q => Q (.tuple xs)
  | _, _ => False
theorem mono_tuple : MonoF1 fTuple := fun x Q Q' hq h => by cases x <;> first | exact hq _ h | exact h
theorem cd_tuple : CallD T X (.type "tuple") fTuple := by
  intro pins s σ0 H xs us Q I rx q
  obtain ⟨x, G, ρ, σ, d, rfl, r, t, q⟩ := q
  cases d with
  | list ds =>
    obtain ⟨a, vs, rfl, ha, hx⟩ := t.da
    refine call_tuple_of pins s σ0 H _ us Q I rx ⟨a, vs, rfl, .inl ⟨SqL.of ha, fun p hp => ?_⟩⟩
    obtain ⟨r2, e2, np, h2⟩ := r.new (o := .tup vs) hp
    exact q _ _ r2 (.tup h2 (hx.ext e2))
  | tuple ds =>
    obtain ⟨a, vs, rfl, ha', ha, hx⟩ := t.tup
    exact call_tuple_of pins s σ0 H _ us Q I rx ⟨a, vs, rfl, .inr ⟨ha, q _ H r ha'⟩⟩
  | _ => exact q.elim
/-- list(xs), new -/
def fList : PyData → (PyData → Prop) → Prop
  | .list xs, Q => Q (.list xs)
  | .tuple xs, Q => Q (.list xs)
  | _, _ => False
theorem mono_list : MonoF1 fList := fun x Q Q' hq h => by cases x <;> first | exact hq _ h | exact h
theorem cf_list : CallF T X (.type "list") fList := by
  intro pins s σ0 H xs us Q I rx q
  obtain ⟨x, G, ρ, σ, d, rfl, r, t, q⟩ := q
  cases d with
  | list ds =>
    obtain ⟨a, vs, rfl, ha, hx⟩ := t.da
    refine call_list_of pins s σ0 H _ us Q I rx ⟨a, vs, rfl, .inl (SqL.of ha), fun p hp => ?_⟩
    obtain ⟨r2, na, ap, h1, h2⟩ := r.newL hp hx
    exact q p _ _ _ rfl r2 na ap h1 h2
  | tuple ds =>
    obtain ⟨a, vs, rfl, ha', ha, hx⟩ := t.tup
    refine call_list_of pins s σ0 H _ us Q I rx ⟨a, vs, rfl, .inr ha, fun p hp => ?_⟩
    obtain ⟨r2, na, ap, h1, h2⟩ := r.newL hp hx
    exact q p _ _ _ rfl r2 na ap h1 h2
  | _ => exact q.elim
/-- int(n), int(flag); str(n); abs(n) -/
def fInt : PyData → (PyData → Prop) → Prop
  | .int i, Q => Q (.int i)
  | .bool k, Q => Q (.int (if k then 1 else 0))
  | _, _ => False
theorem mono_int : MonoF1 fInt := fun x Q Q' hq h => by cases x <;> first | exact hq _ h | exact h
theorem cd_int : CallD T X (.type "int") fInt := by
  intro pins s σ0 H xs us Q I rx q
  obtain ⟨x, G, ρ, σ, d, rfl, r, t, q⟩ := q
  cases d with
  | int i => have e := t.int; subst e; exact call_int1 pins s σ0 H _ us Q I rx (.inl ⟨i, rfl, q _ H r (.int _)⟩)
  | bool i => have e := t.bl; subst e; exact call_int1 pins s σ0 H _ us Q I rx (.inr ⟨i, rfl, q _ H r (.int _)⟩)
  | _ => exact q.elim
def fStrI : PyData → (PyData → Prop) → Prop
  | .int i, Q => i.natAbs.log2 < 1920 ∧ Q (.str (toString i))
  | _, _ => False
theorem mono_strI : MonoF1 fStrI := fun x Q Q' hq h => by cases x <;> first | exact ⟨h.1, hq _ h.2⟩ | exact h
theorem cd_strI : CallD T X (.type "str") fStrI := by
  intro pins s σ0 H xs us Q I rx q
  obtain ⟨x, G, ρ, σ, d, rfl, r, t, q⟩ := q
  cases d with
  | int i => have e := t.int; subst e; exact call_str_int pins s σ0 H _ us Q I rx ⟨i, rfl, q.1, q.2 _ H r (.str _)⟩
  | _ => exact q.elim
def fAbs : PyData → (PyData → Prop) → Prop
  | .int i, Q => Q (.int (if i < 0 then -i else i))
  | _, _ => False
theorem mono_abs : MonoF1 fAbs := fun x Q Q' hq h => by cases x <;> first | exact hq _ h | exact h
theorem cd_abs : CallD T X (.builtin "abs") fAbs := by
  intro pins s σ0 H xs us Q I rx q
  obtain ⟨x, G, ρ, σ, d, rfl, r, t, q⟩ := q
  cases d with
  | int i => have e := t.int; subst e; exact call_abs pins s σ0 H _ us Q I rx ⟨i, rfl, q _ H r (.int _)⟩
  | _ => exact q.elim
end
end PL
set_option Elab.async false
set_option linter.all false
set_option maxRecDepth 100000
set_option maxHeartbeats 2000000
namespace PL
open PySem PySem.Spec PyProof.Rows L2
open LamX (ExtN Tabs TabS)
section
variable {T : Tb} {X : Cx} {W : WX} {pos p apos : Pos} {e a b c o : Expr} {K : PySem.W.Frag} {G : Gh} {ρ : En} {σ : L2.St} {H H' : Hp}
def fMin : PyData → (PyData → Prop) → Prop
  | .list (x :: xs), Q => (PyData.plainAll (x :: xs) = true ∧ PyData.depthAll (x :: xs) ≤ 30 ∧ PySem.W.AlikeAll (x :: xs)) ∧ Q (PySem.W.minD x xs)
  | .tuple (x :: xs), Q => (PyData.plainAll (x :: xs) = true ∧ PyData.depthAll (x :: xs) ≤ 30 ∧ PySem.W.AlikeAll (x :: xs)) ∧ Q (PySem.W.minD x xs)
  | _, _ => False
def fMax : PyData → (PyData → Prop) → Prop
  | .list (x :: xs), Q => (PyData.plainAll (x :: xs) = true ∧ PyData.depthAll (x :: xs) ≤ 30 ∧ PySem.W.AlikeAll (x :: xs)) ∧ Q (PySem.W.maxD x xs)
  | .tuple (x :: xs), Q => (PyData.plainAll (x :: xs) = true ∧ PyData.depthAll (x :: xs) ≤ 30 ∧ PySem.W.AlikeAll (x :: xs)) ∧ Q (PySem.W.maxD x xs)
  | _, _ => False
theorem mono_min : MonoF1 fMin := fun x Q Q' hq h => by
  unfold fMin at h ⊢
  split at h
  · exact ⟨h.1, hq _ h.2⟩
  · exact ⟨h.1, hq _ h.2⟩
  · exact h
theorem mono_max : MonoF1 fMax := fun x Q Q' hq h => by
  unfold fMax at h ⊢
  split at h
  · exact ⟨h.1, hq _ h.2⟩
  · exact ⟨h.1, hq _ h.2⟩
  · exact h
theorem plain_of_mem : ∀ {ds : List PyData} {d : PyData}, PyData.plainAll ds = true → d ∈ ds → d.plain = true
  | [], _, _, h => by cases h
  | x :: xs, d, p, h => by
    simp only [PyData.plainAll, Bool.and_eq_true] at p
    rcases List.mem_cons.mp h with e | h
    · rw [e]; exact p.1
    · exact plain_of_mem p.2 h
/-- an item that reads as m is m -/
theorem item_is {pins : List (Addr × Obj)} {σ' : L2.St} {s : Shared} {O : List Addr} {vs : List V} {us : List Value} {ds : List PyData} {i : Nat} {u : Value} {m : PyData} {h' : Heap} {bs : List Addr} (I : Inv X pins σ' H s) (rv : Vals vs us) (ha : DaAll X.K (hide O H) vs ds) (pl : PyData.plainAll ds = true)
    (hu : us[i]? = some u) (k : ∀ b o, s.heap.get? b = some o → h'.get? b = some o) (rd : Reads h' u m bs) : ∃ v, RelV v u ∧ Da X.K (hide O H) v m := by
  obtain ⟨v, hv⟩ : ∃ v, vs[i]? = some v := by
    have : i < us.length := (List.getElem?_eq_some_iff.mp hu).1
    exact ⟨_, List.getElem?_eq_getElem (by rw [rv.length]; exact this)⟩
  obtain ⟨u', hu', r⟩ := rv.get hv
  rw [hu] at hu'
  cases hu'
  obtain ⟨d, hd, hda⟩ := ha.get hv
  have pd := plain_of_mem pl (List.mem_of_getElem? hd)
  obtain ⟨as, rr⟩ := Dp.reads I d v u (hda.whole.dp pd) r
  have e := SeqAt.plain_unique d m u as bs pd (PyProof.Rows.Reads.keeps k rr) rd
  exact ⟨v, r, by rw [← e]; exact hda⟩
theorem cd_min {k : Nat} (hr : Room k X.A) : CallD T X (.builtin "min") fMin := by
  intro pins s σ0 H xs us Q I rx q
  obtain ⟨x, G, ρ, σ, d, rfl, r, t, q⟩ := q
  have hu := hr.un
  unfold fMin at q
  cases rx with
  | cons r1 r2 =>
    cases r2
    split at q
    · rename_i y ys
      obtain ⟨⟨pl, dp, al⟩, q⟩ := q
      obtain ⟨a, vs, rfl, ha, hx⟩ := t.da
      cases r1
      obtain ⟨its, rv, pl', hz⟩ := I.list (SqL.of ha)
      obtain ⟨as, rr⟩ := Dp.readsAll I _ vs its (hx.whole.dp pl) rv
      refine PySem.W.min_list_data hr.hd (by obtain ⟨o, n, e1, e2, e3, e4⟩ := pl'; exact ⟨o, e1, e2, n, e4⟩) rr al (by omega) fun i v h' tk bs hi rd kp => ?_
      obtain ⟨w, rw', hw⟩ := item_is I rv hx pl (by simpa using hi) kp rd
      exact ⟨w, H, I.kept kp, rw', q w H r hw⟩
    · rename_i y ys
      obtain ⟨⟨pl, dp, al⟩, q⟩ := q
      obtain ⟨a, vs, rfl, _, ha, hx⟩ := t.tup
      cases r1
      obtain ⟨its, rv, pl', hz⟩ := I.tuple ha
      obtain ⟨as, rr⟩ := Dp.readsAll I _ vs its (hx.whole.dp pl) rv
      refine PySem.W.min_tuple_data hr.hd pl' rr al (by omega) fun i v h' tk bs hi rd kp => ?_
      obtain ⟨w, rw', hw⟩ := item_is I rv hx pl (by simpa using hi) kp rd
      exact ⟨w, H, I.kept kp, rw', q w H r hw⟩
    · exact q.elim
theorem cd_max {k : Nat} (hr : Room k X.A) : CallD T X (.builtin "max") fMax := by
  intro pins s σ0 H xs us Q I rx q
  obtain ⟨x, G, ρ, σ, d, rfl, r, t, q⟩ := q
  have hu := hr.un
  unfold fMax at q
  cases rx with
  | cons r1 r2 =>
    cases r2
    split at q
    · rename_i y ys
      obtain ⟨⟨pl, dp, al⟩, q⟩ := q
      obtain ⟨a, vs, rfl, ha, hx⟩ := t.da
      cases r1
      obtain ⟨its, rv, pl', hz⟩ := I.list (SqL.of ha)
      obtain ⟨as, rr⟩ := Dp.readsAll I _ vs its (hx.whole.dp pl) rv
      refine PySem.W.max_list_data hr.hd (by obtain ⟨o, n, e1, e2, e3, e4⟩ := pl'; exact ⟨o, e1, e2, n, e4⟩) rr al (by omega) fun i v h' tk bs hi rd kp => ?_
      obtain ⟨w, rw', hw⟩ := item_is I rv hx pl (by simpa using hi) kp rd
      exact ⟨w, H, I.kept kp, rw', q w H r hw⟩
    · rename_i y ys
      obtain ⟨⟨pl, dp, al⟩, q⟩ := q
      obtain ⟨a, vs, rfl, _, ha, hx⟩ := t.tup
      cases r1
      obtain ⟨its, rv, pl', hz⟩ := I.tuple ha
      obtain ⟨as, rr⟩ := Dp.readsAll I _ vs its (hx.whole.dp pl) rv
      refine PySem.W.max_tuple_data hr.hd pl' rr al (by omega) fun i v h' tk bs hi rd kp => ?_
      obtain ⟨w, rw', hw⟩ := item_is I rv hx pl (by simpa using hi) kp rd
      exact ⟨w, H, I.kept kp, rw', q w H r hw⟩
    · exact q.elim
def fSorted : PyData → (PyData → Prop) → Prop
  | .list xs, Q => (PyData.plainAll xs = true ∧ (∀ d ∈ xs, d.depth ≤ 30) ∧ PySem.W.AllAlike xs ∧ PySem.W.Sortable xs) ∧ Q (.list (xs.mergeSort (PySem.W.dataLe false id)))
  | _, _ => False
theorem mono_sorted : MonoF1 fSorted := fun x Q Q' hq h => by
  unfold fSorted at h ⊢
  split at h
  · exact ⟨h.1, hq _ h.2⟩
  · exact h
theorem each_da {O : List Addr} : ∀ {vs : List V} {us : List Value} {ds : List PyData}, Vals vs us → DaAll K (hide O H) vs ds → PySem.W.EachIs (fun u d => ∃ v, RelV v u ∧ Da K (hide O H) v d) us ds
  | _, _, _, .nil, .nil => .nil
  | _, _, _, .cons r rs, .cons h hs => .cons ⟨_, r, h⟩ (each_da rs hs)
theorem each_out {O : List Addr} : ∀ {us : List Value} {ds : List PyData}, PySem.W.EachIs (fun u d => ∃ v, RelV v u ∧ Da K (hide O H) v d) us ds → ∃ vs, Vals vs us ∧ DaAll K (hide O H) vs ds
  | _, _, .nil => ⟨[], .nil, .nil⟩
  | _, _, .cons ⟨v, r, h⟩ t => by
    obtain ⟨vs, rs, hs⟩ := each_out t
    exact ⟨v :: vs, .cons r rs, .cons h hs⟩
theorem each_reads {pins : List (Addr × Obj)} {σ' : L2.St} {s : Shared} {O : List Addr} (I : Inv X pins σ' H s) : ∀ {vs : List V} {us : List Value} {ds : List PyData}, Vals vs us → DaAll X.K (hide O H) vs ds → PyData.plainAll ds = true → PySem.W.EachIs (fun u d => ∃ as, Reads s.heap u (id d) as) us ds
  | _, _, _, .nil, .nil, _ => .nil
  | _, _, _, .cons r rs, .cons h hs, p => by
    simp only [PyData.plainAll, Bool.and_eq_true] at p
    exact .cons (Dp.reads I _ _ _ (h.whole.dp p.1) r) (each_reads I rs hs p.2)
theorem cf_sorted {k : Nat} (hr : Room k X.A) : CallF T X (.builtin "sorted") fSorted := by
  intro pins s σ0 H xs us Q I rx q
  obtain ⟨x, G, ρ, σ, d, rfl, r, t, q⟩ := q
  have hu := hr.un
  unfold fSorted at q
  cases rx with
  | cons r1 r2 =>
    cases r2
    split at q
    · rename_i ds
      obtain ⟨⟨pl, dp, al, so⟩, q⟩ := q
      obtain ⟨a, vs, rfl, ha, hx⟩ := t.da
      cases r1
      obtain ⟨its, rv, pl', hz⟩ := I.list (SqL.of ha)
      refine PySem.W.sorted_data (R := fun u d => ∃ v, RelV v u ∧ Da X.K (hide G.O H) v d) (enc := id) (by obtain ⟨o, n, e1, e2, e3, e4⟩ := pl'; exact ⟨o, e1, e2, n, e4⟩) (each_da rv hx) (each_reads I rv hx pl) (by rw [List.map_id]; exact al) (by rw [List.map_id]; exact so) (by rw [← hx.length]; exact hz) (fun b hb => by have := dp b hb; show _ + 2 + b.depth < _; omega) fun out hl eo => ?_
      obtain ⟨ws, rw', hw⟩ := each_out eo
      obtain ⟨ep, he'⟩ := PyProof.Rows.sortedAll_at s.heap its out.toArray
      have hn : H (s.heap.objs.size + 1) = none := I.hok.fresh (Nat.le_succ _)
      have hlen : ws.length ≤ sizeLine := by rw [rw'.length, hl, ← hx.length]; exact hz
      obtain ⟨r2, na, ap, h1, h2⟩ := r.newL hn hw
      exact ⟨.ref _, upd H (s.heap.objs.size + 1) (.lst ws), I.laid (t' := s.toks) (fun _ _ => PyProof.Rows.sortedAll_old) (Nat.le_succ _) ⟨hlen, out, ep, rw', he'⟩, rfl, q _ _ _ _ rfl r2 na ap h1 h2⟩
    · exact q.elim
end
end PL
set_option Elab.async false
set_option linter.all false
set_option maxRecDepth 100000
set_option maxHeartbeats 2000000
namespace PL
open PySem PySem.Spec PyProof.Rows L2
open LamX (ExtN Tabs TabS)
abbrev W0 : WX := fun _ _ _ _ => False
abbrev GD := PyData → En → (En → Prop) → Prop
abbrev GDs := List PyData → En → (En → Prop) → Prop
def liftG (T : Tb) (K : PySem.W.Frag) (sl : List Nat) (g : GD) : TG := fun v σ H Q => ∃ G ρ d, Rep T K G ρ σ H ∧ Da K (hide G.O H) v d ∧ g d ρ fun ρ' => ∀ σ', Rep T K G ρ' σ' H → (∀ vs, (∀ i ∈ sl, i ∈ vs) → wipe σ' vs = wipe σ vs) → Q σ' H
def liftGs (T : Tb) (K : PySem.W.Frag) (sl : List Nat) (g : GDs) : TGs := fun v σ H Q => ∃ G ρ d, Rep T K G ρ σ H ∧ DaAll K (hide G.O H) v d ∧ g d ρ fun ρ' => ∀ σ', Rep T K G ρ' σ' H → (∀ vs, (∀ i ∈ sl, i ∈ vs) → wipe σ' vs = wipe σ vs) → Q σ' H
def Off (sl : List Nat) (ρ ρ' : En) : Prop := ∀ i, i ∉ sl → ρ'[i]? = ρ[i]?
def Shd (sl : List Nat) (ρ : En) : Prop := ∀ i ∈ sl, ∀ s, ρ[i]? = some s → s.owned = false
structure DG (T : Tb) (X : Cx) (sl : List Nat) (e : Expr) (g : GD) : Prop where
  pg : PG X e (liftG T X.K sl g)
  mono : ∀ d ρ Q Q', (∀ r, Q r → Q' r) → g d ρ Q → g d ρ Q'
  keep : ∀ d ρ Q, g d ρ Q → g d ρ fun ρ' => Q ρ' ∧ Off sl ρ ρ' ∧ Shd sl ρ'
structure DGs (T : Tb) (X : Cx) (sl : List Nat) (es : List Expr) (g : GDs) : Prop where
  pg : PGs X es (liftGs T X.K sl g)
  mono : ∀ d ρ Q Q', (∀ r, Q r → Q' r) → g d ρ Q → g d ρ Q'
  keep : ∀ d ρ Q, g d ρ Q → g d ρ fun ρ' => Q ρ' ∧ Off sl ρ ρ' ∧ Shd sl ρ'
theorem wipe_set {σ : L2.St} {i : Nat} {x : Option V} : ∀ {vs : List Nat}, i ∈ vs → wipe (σ.set i x) vs = wipe σ vs
  | [], h => by cases h
  | v :: vs, h => by
    show (wipe (σ.set i x) vs).set v none = (wipe σ vs).set v none
    by_cases hi : i ∈ vs
    · rw [wipe_set hi]
    · have e : i = v := (List.mem_cons.mp h).elim id fun z => absurd z hi
      subst e
      have key : ∀ {us : List Nat} {τ : L2.St}, i ∉ us → (wipe (τ.set i x) us) = (wipe τ us).set i x := fun {us} => by
        induction us with
        | nil => intro τ _; rfl
        | cons u r ih =>
          intro τ hn
          show (wipe (τ.set i x) r).set u none = ((wipe τ r).set u none).set i x
          rw [ih fun z => hn (List.mem_cons_of_mem _ z), List.set_comm _ _ (fun z => hn (by rw [z]; exact List.mem_cons_self))]
      rw [key hi, List.set_set]
theorem wipe_get {σ : L2.St} {i : Nat} : ∀ {vs : List Nat}, i ∉ vs → (wipe σ vs)[i]? = σ[i]?
  | [], _ => rfl
  | v :: vs, h => by
    show ((wipe σ vs).set v none)[i]? = _
    rw [List.getElem?_set_ne (fun z => h (by rw [z]; exact List.mem_cons_self)), wipe_get fun z => h (List.mem_cons_of_mem _ z)]
theorem wipe_in {σ : L2.St} {i : Nat} (hi : i < σ.length) : ∀ {vs : List Nat}, i ∈ vs → (wipe σ vs)[i]? = some none
  | [], h => by cases h
  | v :: vs, h => by
    show ((wipe σ vs).set v none)[i]? = _
    by_cases e : v = i
    · subst e
      rw [List.getElem?_set_self (by rw [wipe_length]; exact hi)]
    · rw [List.getElem?_set_ne e]
      exact wipe_in hi ((List.mem_cons.mp h).elim (fun z => absurd z.symm e) id)
def wipeE (ρ : En) : List Nat → En
  | [] => ρ
  | v :: vs => (wipeE ρ vs).set v .un
theorem wipeE_length (ρ : En) : ∀ vs, (wipeE ρ vs).length = ρ.length
  | [] => rfl
  | v :: vs => by
    show ((wipeE ρ vs).set v .un).length = _
    rw [List.length_set, wipeE_length ρ vs]
theorem wipeE_get {ρ : En} {i : Nat} : ∀ {vs : List Nat}, i ∉ vs → (wipeE ρ vs)[i]? = ρ[i]?
  | [], _ => rfl
  | v :: vs, h => by
    show ((wipeE ρ vs).set v .un)[i]? = _
    rw [List.getElem?_set_ne (fun z => h (by rw [z]; exact List.mem_cons_self)), wipeE_get fun z => h (List.mem_cons_of_mem _ z)]
theorem wipeE_in {ρ : En} {i : Nat} {s : Sl} : ∀ {vs : List Nat}, i ∈ vs → (wipeE ρ vs)[i]? = some s → s = .un
  | [], h, _ => by cases h
  | v :: vs, h, e => by
    have e : ((wipeE ρ vs).set v .un)[i]? = some s := e
    by_cases z : v = i
    · subst z
      by_cases hl : v < (wipeE ρ vs).length
      · rw [List.getElem?_set_self hl] at e
        exact (Option.some.inj e).symm
      · rw [List.getElem?_eq_none (by rw [List.length_set]; omega)] at e
        cases e
    · rw [List.getElem?_set_ne z] at e
      exact wipeE_in ((List.mem_cons.mp h).elim (fun y => absurd y.symm z) id) e
section
variable {T : Tb} {X : Cx} {W : WX} {pos p : Pos} {e a b c : Expr} {K : PySem.W.Frag} {G : Gh} {ρ ρ' : En} {σ σ' : L2.St} {H H' : Hp}
/-- a slot is set to a value -/
theorem Rep.setSh (r : Rep T K G ρ σ H) {i : Nat} {v : V} {d : PyData} (h : Da K (hide G.O H) v d) : Rep T K G (ρ.set i (.sh d)) (σ.set i (some v)) H where
  len := by rw [List.length_set, List.length_set]; exact r.len
  slot j s hs := by
    by_cases e : i = j
    · subst e
      have hl : i < ρ.length := by
        by_cases z : i < ρ.length
        · exact z
        · rw [List.getElem?_eq_none (by rw [List.length_set]; omega)] at hs; cases hs
      rw [List.getElem?_set_self hl] at hs
      cases hs
      exact ⟨some v, List.getElem?_set_self (by rw [← r.len]; exact hl), v, rfl, h⟩
    · rw [List.getElem?_set_ne e] at hs ⊢
      exact r.slot j s hs
  sep j k s t a hjk hj hk hs ht e1 e2 := by
    have nj : ∀ {l : Nat} {u : Sl}, (ρ.set i (.sh d))[l]? = some u → u.owned = true → l ≠ i := fun {l u} hl hu z => by
      subst z
      by_cases hz : l < ρ.length
      · rw [List.getElem?_set_self hz] at hl; cases hl; cases hu
      · rw [List.getElem?_eq_none (by rw [List.length_set]; omega)] at hl; cases hl
    have n1 := nj hj hs
    have n2 := nj hk ht
    rw [List.getElem?_set_ne (Ne.symm n1)] at hj e1
    rw [List.getElem?_set_ne (Ne.symm n2)] at hk e2
    exact r.sep j k s t a hjk hj hk hs ht e1 e2
  tab := r.tab
  ext := r.ext
  dom := r.dom
  fly := r.fly
  dcs := r.dcs
def gNameD (i : Nat) : GD := fun d ρ Q => Q (ρ.set i (.sh d))
theorem dg_name (i : Nat) (p : PG X e (gName i)) : DG T X [i] e (gNameD i) := ⟨⟨fun pins s σ H v u Q I rv h => p.run pins s σ H v u Q I rv (by
    obtain ⟨G, ρ, d, r, a, q⟩ := h
    exact q _ (r.setSh a) fun vs hv => wipe_set (hv i (List.mem_singleton.mpr rfl)))⟩, fun d ρ Q Q' hq h => hq _ h,
  fun d ρ Q h => ⟨h, fun j hj => List.getElem?_set_ne (fun z => hj (by rw [z]; exact List.mem_singleton.mpr rfl)), fun j hj s hs => by
    rw [List.mem_singleton.mp hj] at hs
    by_cases hl : i < ρ.length
    · rw [List.getElem?_set_self hl] at hs; cases hs; rfl
    · rw [List.getElem?_eq_none (by rw [List.length_set]; omega)] at hs; cases hs⟩⟩
def gNilD : GDs := fun ds ρ Q => ds = [] ∧ Q ρ
def gConsD (g : GD) (gs : GDs) : GDs := fun ds ρ Q => match ds with
  | d :: r => g d ρ fun ρ' => gs r ρ' Q
  | [] => False
theorem dgs_nil : DGs T X [] [] gNilD := ⟨⟨fun pins s σ H v u Q I rv h => pgs_nil.run pins s σ H v u Q I rv (by
    obtain ⟨G, ρ, d, r, a, rfl, q⟩ := h
    cases a
    exact ⟨rfl, q σ r fun _ _ => rfl⟩)⟩, fun d ρ Q Q' hq h => ⟨h.1, hq _ h.2⟩, fun d ρ Q h => ⟨h.1, h.2, fun _ _ => rfl, fun i hi => by cases hi⟩⟩
theorem dgs_cons {es : List Expr} {sl sls : List Nat} {g : GD} {gs : GDs} (h1 : DG T X sl e g) (h2 : DGs T X sls es gs)
    (hs : (assignEach (e :: es) X.env).map (·.2) = assign e X.env :: (assignEach es X.env).map (·.2) := by rfl) : DGs T X (sl ++ sls) (e :: es) (gConsD g gs) :=
  ⟨⟨fun pins s σ H v u Q I rv h => (pgs_cons h1.pg h2.pg hs).run pins s σ H v u Q I rv (by
    obtain ⟨G, ρ, ds, r, a, q⟩ := h
    cases a with
    | nil => exact q.elim
    | cons a1 a2 =>
      refine ⟨_, _, rfl, G, ρ, _, r, a1, h1.mono _ _ _ _ (fun ρ' q' σ' r' w' => ?_) q⟩
      exact ⟨G, ρ', _, r', a2, h2.mono _ _ _ _ (fun ρ'' q'' σ'' r'' w'' => q'' σ'' r'' fun vs hv => (w'' vs fun i hi => hv i (List.mem_append_right _ hi)).trans (w' vs fun i hi => hv i (List.mem_append_left _ hi))) q'⟩)⟩,
   fun ds ρ Q Q' hq h => by
    cases ds with
    | nil => exact h
    | cons d r => exact h1.mono _ _ _ _ (fun ρ' q' => h2.mono _ _ _ _ hq q') h,
   fun ds ρ Q h => by
    cases ds with
    | nil => exact h.elim
    | cons d r =>
      refine h1.mono _ _ _ _ (fun ρ' q' => ?_) (h1.keep _ _ _ h)
      refine h2.mono _ _ _ _ (fun ρ'' q'' => ⟨q''.1, fun i hi => (q''.2.1 i fun z => hi (List.mem_append_right _ z)).trans (q'.2.1 i fun z => hi (List.mem_append_left _ z)), fun i hi s hs => ?_⟩) (h2.keep _ _ _ q'.1)
      by_cases z : i ∈ sls
      · exact q''.2.2 i z s hs
      · rw [q''.2.1 i z] at hs
        exact q'.2.2 i ((List.mem_append.mp hi).resolve_right z) s hs⟩
def gTupD (n : Nat) (gs : GDs) : GD := fun d ρ Q => match d with
  | .tuple ds => ds.length = n ∧ gs ds ρ Q
  | _ => False
theorem dg_tup {es : List Expr} {k n : Nat} {sl : List Nat} {gs : GDs} (hc : X.calm = true) (h : DGs T X sl es gs) (hn : (assignEach es X.env).length = n := by rfl) (hst : (assignEach es X.env).findIdx? (·.1) = none := by rfl) : DG T X sl (.Tuple es k pos) (gTupD n gs) :=
  ⟨⟨fun pins s σ H v u Q I rv q => (pg_tup hc h.pg hn hst).run pins s σ H v u Q I rv (by
    obtain ⟨G, ρ, d, r, a, q⟩ := q
    cases d with
    | tuple ds =>
      obtain ⟨t, xs, rfl, ht', ht, hx⟩ := (Top.sh (D0 := []) a).tup
      exact ⟨t, xs, rfl, ht, by rw [hx.length]; exact q.1, G, ρ, ds, r, hx, q.2⟩
    | _ => exact q.elim)⟩,
   fun d ρ Q Q' hq q => by cases d <;> first | exact ⟨q.1, h.mono _ _ _ _ hq q.2⟩ | exact q,
   fun d ρ Q q => by cases d <;> first | exact ⟨q.1, h.keep _ _ _ q.2⟩ | exact q.elim⟩
/-- J hands out ds while what stood in B stands -/
def WkJ (K : PySem.W.Frag) (B : Hp) (J : It) (ds : List PyData) : Prop := ∀ (O : List Addr) (H : Hp), ExtN B (hide O H) → (∀ a ∈ O, H a ≠ none) →
  (∀ (i : Nat) (d : PyData), ds[i]? = some d → J.go i H ∧ ∀ x H3, J.yld i H x H3 → (∀ b o, H b = some o → H3 b = some o) ∧ Da K (hide O H3) x d) ∧ ∀ i : Nat, ds.length ≤ i → J.stop i H
def liftI (T : Tb) (K : PySem.W.Frag) (W : WX) (w : PWs) : TI := fun σ H R => ∃ G ρ, Rep T K G ρ σ H ∧ w ρ (fun ds => ∀ J H', Rep T K G ρ σ H' → WkJ K (hide G.O H') J ds → R J H') (exOut T K W G ρ σ)
structure DI (T : Tb) (X : Cx) (W : WX) (tg iter : Expr) (w : PWs) : Prop where
  pi : PI X tg iter (liftI T X.K W w)
  mono : Mono w
theorem pi_mono {tg iter : Expr} {t t' : TI} (h : PI X tg iter t) (i : ∀ σ H Q, t' σ H Q → t σ H Q) : PI X tg iter t' := ⟨fun pins s σ H Q I q => h.run pins s σ H Q I (i _ _ _ q)⟩
theorem wk_list {a : Addr} {vs : List V} {ds : List PyData} {B : Hp} (h : B a = some (.lst vs)) (hx : DaAll K B vs ds) : WkJ K B (Itl K a) ds := fun O H e dm => by
  have ha : hide O H a = some (.lst vs) := e _ _ h fun ps z => by cases z
  have ha2 := (hide_some ha).2
  refine ⟨fun i d hd => ?_, fun i hi => ⟨vs, SqL.of ha2, by rw [hx.length]; exact hi⟩⟩
  obtain ⟨v, h1, h2⟩ := hx.getD hd
  exact ⟨⟨vs, v, SqL.of ha2, h1⟩, fun x H3 hy => by
    obtain ⟨rfl, q⟩ := hy
    have := q vs (SqL.of ha2)
    rw [h1] at this
    cases this
    exact ⟨fun _ _ e => e, h2.ext e⟩⟩
theorem wk_tup {a : Addr} {vs : List V} {ds : List PyData} {B : Hp} (h : SqT K B a vs) (hx : DaAll K B vs ds) : WkJ K B (Itt K a) ds := fun O H e dm => by
  have ha2 : SqT K H a vs := sqT_whole (sqT_ext e h)
  refine ⟨fun i d hd => ?_, fun i hi => ⟨vs, ha2, by rw [hx.length]; exact hi⟩⟩
  obtain ⟨v, h1, h2⟩ := hx.getD hd
  exact ⟨⟨vs, v, ha2, h1⟩, fun x H3 hy => by
    obtain ⟨rfl, q⟩ := hy
    have := q vs ha2
    rw [h1] at this
    cases this
    exact ⟨fun _ _ e => e, h2.ext e⟩⟩
def rangeD (lo : Int) (n : Nat) : List PyData := (List.range n).map fun i => .int (lo + (i : Nat))
theorem wk_range {lo : Int} {n : Nat} {B : Hp} : WkJ K B (Itr lo n) (rangeD lo n) := fun O H e dm => by
  have hl : (rangeD lo n).length = n := by unfold rangeD; simp
  refine ⟨fun i d hd => ?_, fun i hi => by rw [hl] at hi; exact hi⟩
  have hi : i < n := by
    have := (List.getElem?_eq_some_iff.mp hd).1
    rw [hl] at this; exact this
  have ed : d = .int (lo + (i : Nat)) := by
    unfold rangeD at hd
    rw [List.getElem?_map, List.getElem?_range hi] at hd
    exact (Option.some.inj hd).symm
  subst ed
  exact ⟨hi, fun x H3 hy => by
    obtain ⟨rfl, rfl⟩ := hy
    exact ⟨fun _ _ e => e, .int _⟩⟩
def wItL (w : PW) : PWs := fun ρ Q E => w ρ (fun d => match d with | .list ds => Q ds | _ => False) E
def wItT (w : PW) : PWs := fun ρ Q E => w ρ (fun d => match d with | .tuple ds => Q ds | _ => False) E
theorem di_list {tg : Expr} {w : PW} (h : DE T X W e w) : DI T X W tg e (wItL w) := ⟨pi_mono (pi_list h.pe) fun σ H R q => by
    obtain ⟨G, ρ, r, q⟩ := q
    refine ⟨G, ρ, r, h.mono _ _ _ _ _ (fun d hd v H' r' a => ?_) (fun _ z => z) q⟩
    cases a with
    | lst h1 h2 => exact ⟨_, rfl, ⟨_, SqL.of (hide_some h1).2⟩, hd _ H' r' (wk_list h1 h2)⟩
    | _ => exact hd.elim, fun ρ Q Q' E E' hq he q => h.mono _ _ _ _ _ (fun d hd => by cases d <;> first | exact hq _ hd | exact hd) he q⟩
theorem di_tup {tg : Expr} {w : PW} (h : DE T X W e w) : DI T X W tg e (wItT w) := ⟨pi_mono (pi_tup h.pe) fun σ H R q => by
    obtain ⟨G, ρ, r, q⟩ := q
    refine ⟨G, ρ, r, h.mono _ _ _ _ _ (fun d hd v H' r' a => ?_) (fun _ z => z) q⟩
    cases a with
    | tup h1 h2 => exact ⟨_, rfl, ⟨_, SqT.of (hide_some h1).2⟩, hd _ H' r' (wk_tup (SqT.of h1) h2)⟩
    | ftup h1 _ _ h2 => exact ⟨_, rfl, ⟨_, .inl (.inr ⟨_, (hide_some h1).2⟩)⟩, hd _ H' r' (wk_tup (.inl (.inr ⟨_, h1⟩)) h2)⟩
    | _ => exact hd.elim, fun ρ Q Q' E E' hq he q => h.mono _ _ _ _ _ (fun d hd => by cases d <;> first | exact hq _ hd | exact hd) he q⟩
def wRng1 (ws : PWs) : PWs := fun ρ Q E => ws ρ (fun ds => match ds with | [.int j] => (-(2 ^ 62) ≤ j ∧ j < 2 ^ 62) ∧ Q (rangeD 0 j.toNat) | _ => False) E
theorem di_range1 {tg : Expr} {ws : PWs} (hg : Gl X "range") (hm : X.mg "range" = none) (h : DA T X W [a] ws) (hs : starEach [a] X.env = [(false, eval a X.env)] := by rfl) : DI T X W tg (.Call (.Name "range" p) [a] [] pos) (wRng1 ws) :=
  ⟨pi_mono (pi_range1 hg hm h.pa hs) fun σ H R q => by
    obtain ⟨G, ρ, r, q⟩ := q
    refine ⟨G, ρ, r, h.mono _ _ _ _ _ (fun ds hd vs H' r' a => ?_) (fun _ z => z) q⟩
    split at hd
    · cases a with
      | cons h1 a =>
        cases a
        cases h1
        exact ⟨_, rfl, hd.1.1, hd.1.2, hd.2 _ H' r' wk_range⟩
    · exact hd.elim, fun ρ Q Q' E E' hq he q => h.mono _ _ _ _ _ (fun ds hd => by
      split at hd
      · exact ⟨hd.1, hq _ hd.2⟩
      · exact hd.elim) he q⟩
end
end PL
set_option Elab.async false
set_option linter.all false
set_option maxRecDepth 100000
set_option maxHeartbeats 2000000
namespace PL
open PySem PySem.Spec PyProof.Rows L2
open LamX (ExtN Tabs TabS)
def NoOwn (vs : List Nat) (ρ : En) : Prop := ∀ i ∈ vs, ∀ s, ρ[i]? = some s → s.owned = false
section
variable {T : Tb} {X : Cx} {W : WX} {pos p : Pos} {e a b c : Expr} {K : PySem.W.Frag} {G G2 : Gh} {ρ ρ2 : En} {σ σ2 : L2.St} {H H' : Hp}
theorem Rep.wipe (r : Rep T K G ρ σ H) (vs : List Nat) : Rep T K G (wipeE ρ vs) (L2.wipe σ vs) H where
  len := by rw [wipeE_length, wipe_length]; exact r.len
  slot i s hs := by
    by_cases hi : i ∈ vs
    · have e := wipeE_in hi hs
      subst e
      have hl : i < (wipeE ρ vs).length := (List.getElem?_eq_some_iff.mp hs).1
      rw [wipeE_length, r.len] at hl
      exact ⟨none, wipe_in hl hi, trivial⟩
    · rw [wipeE_get hi] at hs
      rw [wipe_get hi]
      exact r.slot i s hs
  sep i j s t a hij hi hj hs ht e1 e2 := by
    have ni : i ∉ vs := fun z => by rw [wipeE_in z hi] at hs; cases hs
    have nj : j ∉ vs := fun z => by rw [wipeE_in z hj] at ht; cases ht
    rw [wipeE_get ni] at hi
    rw [wipeE_get nj] at hj
    rw [wipe_get ni] at e1
    rw [wipe_get nj] at e2
    exact r.sep i j s t a hij hi hj hs ht e1 e2
  tab := r.tab
  ext := r.ext
  dom := r.dom
  fly := r.fly
  dcs := r.dcs
/-- back from a block -/
theorem Rep.unwipe {vs : List Nat} (r : Rep T K G ρ σ H) (r2 : Rep T K ⟨hide G.O H, G.O, G.fl⟩ ρ2 σ2 H') (no : NoOwn vs ρ) (off : Off vs ρ ρ2) (hw : L2.wipe σ2 vs = L2.wipe σ vs) : Rep T K G ρ σ H' where
  len := r.len
  slot i s hs := by
    have e : ExtN (hide G.O H) (hide G.O H') := r2.ext
    by_cases hi : i ∈ vs
    · have ho := no i hi s hs
      obtain ⟨v, h1, h2⟩ := r.slot i s hs
      refine ⟨v, h1, ?_⟩
      cases s with
      | un => trivial
      | sh d => obtain ⟨x, h3, h4⟩ := h2; exact ⟨x, h3, h4.ext e⟩
      | sn d => obtain ⟨x, h3, h4⟩ := h2; exact ⟨x, h3, h4.ext e⟩
      | sk d => obtain ⟨x, h3, h4⟩ := h2; exact ⟨x, h3, h4.ext e⟩
      | dice => exact h2
      | scr ns => obtain ⟨b, h3, h4⟩ := h2; exact ⟨b, h3, sqL_ext e h4⟩
      | _ => cases ho
    · rw [← off i hi] at hs
      have := r2.slot i s hs
      rw [← wipe_get (σ := σ2) hi, hw, wipe_get hi] at this
      exact this
  sep := r.sep
  tab := r2.tab
  ext := r.ext.trans r2.ext
  dom := r2.dom
  fly := r2.fly
  dcs := r2.dcs
theorem Rep.unbase' {Hb : Hp} {O : List Addr} {fl : List (Addr × HO)} (r : Rep T K ⟨Hb, O, fl⟩ ρ σ H) (Hb' : Hp) (e : ExtN Hb' Hb) : Rep T K ⟨Hb', O, fl⟩ ρ σ H := ⟨r.len, r.slot, r.sep, r.tab, e.trans r.ext, r.dom, r.fly, r.dcs⟩
def Cont (o : HO) : Prop := (∃ xs, o = .lst xs) ∨ (∃ xs, o = .dK xs) ∨ ∃ xs, o = .dT xs
theorem TOk.upd {D : Addr} {o o' : HO} (t : TOk T H) (hD : H D = some o) (c : Cont o) : TOk T (upd H D o') := by
  refine t.put hD (fun ps z => ?_) (fun oc z => ?_) fun q z => ?_
  all_goals (try unfold LamX.CodeO at z); rcases c with ⟨x, e⟩ | ⟨x, e⟩ | ⟨x, e⟩ <;> rw [e] at z <;> cases z
/-- an object of ours, in no slot, is written -/
theorem Rep.put {Hb : Hp} {O : List Addr} {fl : List (Addr × HO)} {D : Addr} {o o' : HO} (r : Rep T K ⟨Hb, O, (D, o) :: fl⟩ ρ σ H) (ap : Apt ρ σ D) (hn : ∀ q ∈ fl, q.1 ≠ D) (co : Cont o) (co' : Cont o') :
    Rep T K ⟨Hb, O, (D, o') :: fl⟩ ρ σ (upd H D o') ∧ hide O (upd H D o') = hide O H := by
  obtain ⟨hO, hD⟩ := r.fly _ List.mem_cons_self
  have eh : hide O (upd H D o') = hide O H := hide_upd hO
  have notD : ∀ (j : Nat) (s : Sl) (b : Addr), ρ[j]? = some s → s.owned = true → σ[j]? = some (some (.ref b)) → b ≠ D := fun j s b hj hs e z => by
    rw [z] at e
    exact ap j s hj hs e
  refine ⟨⟨r.len, fun j s hj => ?_, r.sep, r.tab.upd hD co, by rw [eh]; exact r.ext, fun b hb => ?_, fun q hq => ?_, fun b hb => ?_⟩, eh⟩
  · obtain ⟨u, h1, h2⟩ := r.slot j s hj
    refine ⟨u, h1, ?_⟩
    cases s with
    | un => trivial
    | sh d => obtain ⟨x, h3, h4⟩ := h2; exact ⟨x, h3, by rw [eh]; exact h4⟩
    | ol ds => obtain ⟨b, us, h3, h4, h5, h6⟩ := h2; subst h3; exact ⟨b, us, rfl, h4, by rw [upd_ne (notD j _ b hj rfl h1)]; exact h5, by rw [eh]; exact h6⟩
    | ok ds => obtain ⟨b, us, h3, h4, h5, h6, h7⟩ := h2; subst h3; exact ⟨b, us, rfl, h4, by rw [upd_ne (notD j _ b hj rfl h1)]; exact h5, h6, by rw [eh]; exact h7⟩
    | ot ds => obtain ⟨b, us, h3, h4, h5, h6, h7⟩ := h2; subst h3; exact ⟨b, us, rfl, h4, by rw [upd_ne (notD j _ b hj rfl h1)]; exact h5, h6, by rw [eh]; exact h7⟩
    | ln b _ => obtain ⟨h3, h4, hob, h5, h7⟩ := h2; subst h3; exact ⟨rfl, h4, hob, by rw [upd_ne (notD j _ b hj rfl h1)]; exact h5, by rw [eh]; exact h7⟩
    | on ds => obtain ⟨b, us, h3, h4, h5, h6, h7⟩ := h2; subst h3; exact ⟨b, us, rfl, h4, by rw [upd_ne (notD j _ b hj rfl h1)]; exact h5, h6, by rw [eh]; exact h7⟩
    | sn d => obtain ⟨x, h3, h4⟩ := h2; exact ⟨x, h3, by rw [eh]; exact h4⟩
    | sk d => obtain ⟨x, h3, h4⟩ := h2; exact ⟨x, h3, by rw [eh]; exact h4⟩
    | dice => exact h2
    | scr ns => obtain ⟨b, h3, h4⟩ := h2; exact ⟨b, h3, by rw [eh]; exact h4⟩
  · by_cases z : b = D
    · rw [z, upd_same]
      refine ⟨_, rfl, fun ps e => ?_⟩
      rcases co' with ⟨x, h⟩ | ⟨x, h⟩ | ⟨x, h⟩ <;> rw [h] at e <;> cases e
    · rw [upd_ne z]; exact r.dom b hb
  · rcases List.mem_cons.mp hq with z | z
    · rw [z]; exact ⟨hO, upd_same⟩
    · rw [upd_ne (hn q z)]; exact r.fly q (List.mem_cons_of_mem _ z)
  · obtain ⟨h1, h2, h3⟩ := r.dcs b hb
    have nb : b ≠ D := fun z => h3 _ List.mem_cons_self z.symm
    refine ⟨h1, by rw [upd_ne nb]; exact h2, fun q hq => ?_⟩
    rcases List.mem_cons.mp hq with z | z
    · rw [z]; exact fun z => nb z.symm
    · exact h3 q (List.mem_cons_of_mem _ z)
theorem wipe_wipe (σ : L2.St) (vs : List Nat) : L2.wipe (L2.wipe σ vs) vs = L2.wipe σ vs := by
  apply List.ext_getElem?
  intro i
  by_cases hi : i ∈ vs
  · by_cases hl : i < σ.length
    · rw [wipe_in (by rw [wipe_length]; exact hl) hi, wipe_in hl hi]
    · rw [List.getElem?_eq_none (by rw [wipe_length, wipe_length]; omega), List.getElem?_eq_none (by rw [wipe_length]; omega)]
  · rw [wipe_get hi]
structure DTs (T : Tb) (X : Cx) (W : WX) (ifs : List Expr) (w : PWB) : Prop where
  pt : PTs X ifs (liftB T X.K W w)
  mono : Mono w
def wYes : PWB := fun _ Q _ => Q true
theorem pts_mono {X : Cx} {e : List Expr} {t t' : TT} (h : PTs X e t) (i : ∀ σ H Q, t' σ H Q → t σ H Q) : PTs X e t' := ⟨fun pins s σ H Q I q => h.run pins s σ H Q I (i _ _ _ q)⟩
theorem dts_nil : DTs T X W [] wYes := ⟨pts_mono pts_nil fun σ H Q q => by
  obtain ⟨G, ρ, r, q⟩ := q
  exact q H r, fun _ _ _ _ _ hq _ h => hq _ h⟩
theorem dts_one {w : PWB} (h : DT T X W e w) : DTs T X W [e] w := ⟨pts_one h.pt, h.mono⟩
def goLc (g : GD) (wt : PWB) (we : PW) (ρw : En) : List PyData → List PyData → (List PyData → Prop) → Prop
  | [], acc, Q => Q acc
  | d :: ds, acc, Q => g d ρw fun ρ2 => wt ρ2 (fun k => if k = true then we ρ2 (fun y => acc.length < sizeLine ∧ goLc g wt we ρw ds (acc ++ [y]) Q) (fun _ => False) else goLc g wt we ρw ds acc Q) (fun _ => False)
def wLc (wi : PWs) (g : GD) (wt : PWB) (we : PW) (vs : List Nat) : PW := fun ρ Q E => NoOwn vs ρ ∧ wi ρ (fun ds => goLc g wt we (wipeE ρ vs) ds [] fun acc => Q (.list acc)) E
theorem goLc_mono {g : GD} {wt : PWB} {we : PW} {ρw : En} (mg : ∀ d ρ Q Q', (∀ r, Q r → Q' r) → g d ρ Q → g d ρ Q') (mt : Mono wt) (me : Mono we) {Q Q' : List PyData → Prop} (hq : ∀ d, Q d → Q' d) : ∀ (ds acc : List PyData), goLc g wt we ρw ds acc Q → goLc g wt we ρw ds acc Q'
  | [], acc, h => hq _ h
  | d :: ds, acc, h => mg _ _ _ _ (fun ρ2 h2 => mt _ _ _ _ _ (fun k hk => by
      cases k with
      | true => exact me _ _ _ _ _ (fun y hy => ⟨hy.1, goLc_mono mg mt me hq ds _ hy.2⟩) (fun _ z => z) hk
      | false => exact goLc_mono mg mt me hq ds _ hk) (fun _ z => z) h2) h
theorem mono_Lc {wi : PWs} {g : GD} {wt : PWB} {we : PW} {vs : List Nat} (mi : Mono wi) (mg : ∀ d ρ Q Q', (∀ r, Q r → Q' r) → g d ρ Q → g d ρ Q') (mt : Mono wt) (me : Mono we) : Mono (wLc wi g wt we vs) := fun ρ Q Q' E E' hq he h =>
  ⟨h.1, mi _ _ _ _ _ (fun ds hd => goLc_mono mg mt me (fun acc ha => hq _ ha) ds [] hd) he h.2⟩
theorem lc_imp {own : List (Str × Nat)} {wi : PWs} {g : GD} {wt : PWB} {we : PW} {sl : List Nat} {Q : VK} (mi : Mono wi) (mg : ∀ d ρ Q Q', (∀ r, Q r → Q' r) → g d ρ Q → g d ρ Q') (kg : ∀ d ρ Q, g d ρ Q → g d ρ fun ρ' => Q ρ' ∧ Off sl ρ ρ' ∧ Shd sl ρ') (mt : Mono wt) (me : Mono we) (hsl : ∀ i ∈ sl, i ∈ own.map (·.2))
    (q : liftF T X.K W (wLc wi g wt we (own.map (·.2))) σ H Q) : tLc (liftI T X.K W wi) (liftG T X.K sl g) (liftB T X.K W0 wt) (lift T X.K W0 we) (own.map (·.2)) σ H Q := by
  generalize hvs : own.map (·.2) = vs at hsl q ⊢
  obtain ⟨G, ρ, r, no, q⟩ := q
  refine ⟨G, ρ, r, mi _ _ _ _ _ (fun ds hgo J H1 r1 wk D hD => ?_) (fun _ z => z) q⟩
  have nD : D ∉ G.O := fun z => by obtain ⟨o, e, _⟩ := r1.dom D z; rw [hD] at e; cases e
  refine ⟨fun i m H2 => ∃ (vsa : List V) (acc : List PyData), m = ds.length - i ∧ Rep T X.K ⟨hide G.O H1, D :: G.O, (D, .lst vsa) :: G.fl⟩ ρ σ H2 ∧ Apt ρ σ D ∧ DaAll X.K (hide (D :: G.O) H2) vsa acc ∧
    goLc g wt we (wipeE ρ vs) (ds.drop i) acc (fun acc => ∀ (a : Addr) (vs : List V) (ds : List PyData) (H' : Hp), PyData.list acc = .list ds → Rep T X.K ⟨G.Hb, a :: G.O, G.fl⟩ ρ σ H' → a ∉ G.O → Apt ρ σ a → H' a = some (.lst vs) → DaAll X.K (hide (a :: G.O) H') vs ds → Q (.ref a) H'), ?_, fun i m H2 hW => ?_⟩
  · obtain ⟨r2, na, ap, h1, h2⟩ := r1.newL (vs := []) (ds := []) hD .nil
    exact ⟨_, [], [], rfl, ⟨r2.len, r2.slot, r2.sep, r2.tab, r2.ext |> fun _ => (by rw [show hide (D :: G.O) (upd H1 D (.lst [])) = hide G.O H1 from hide_new hD]; exact ExtN.refl _), r2.dom, fun p hp => by
      rcases List.mem_cons.mp hp with e | hp
      · rw [e]; exact ⟨List.mem_cons_self, h1⟩
      · exact r2.fly p hp, fun b hb => ⟨(r2.dcs b hb).1, (r2.dcs b hb).2.1, fun q hq => by
      rcases List.mem_cons.mp hq with e | hq
      · rw [e]; exact fun z => nD (by rw [show D = b from z]; exact (r1.dcs b hb).1)
      · exact (r2.dcs b hb).2.2 q hq⟩⟩, ap, .nil, by rw [List.drop_zero]; exact hgo⟩
  · obtain ⟨vsa, acc, rfl, r2, ap, ha, hgo⟩ := hW
    have hDv : H2 D = some (.lst vsa) := (r2.fly _ List.mem_cons_self).2
    have r2l := r2.land.1
    have dm : ∀ a ∈ D :: G.O, H2 a ≠ none := fun a ha z => by obtain ⟨o, e, _⟩ := r2.dom a ha; rw [z] at e; cases e
    obtain ⟨wk1, wk2⟩ := wk (D :: G.O) H2 r2.ext dm
    cases hd : ds.drop i with
    | nil =>
      refine .inl ⟨wk2 i (List.drop_eq_nil_iff.mp hd), ?_⟩
      rw [hd] at hgo
      exact hgo D vsa acc H2 rfl (r2l.unbase' _ r1.ext) nD ap hDv ha
    | cons d rest =>
      have hi' : i < ds.length := by
        by_cases z : i < ds.length
        · exact z
        · rw [List.drop_eq_nil_of_le (by omega)] at hd; cases hd
      have hdi : ds[i]? = some d := by
        have := List.drop_eq_getElem_cons hi'
        rw [hd] at this
        rw [List.getElem?_eq_getElem hi', ← (List.cons.inj this).1]
      have hrest : ds.drop (i + 1) = rest := by
        have := List.drop_eq_getElem_cons hi'
        rw [hd] at this
        exact (List.cons.inj this).2.symm
      obtain ⟨jgo, yld⟩ := wk1 i d hdi
      rw [hd] at hgo
      refine .inr ⟨jgo, fun H' => ∃ (vsa : List V) (acc : List PyData), Rep T X.K ⟨hide G.O H1, D :: G.O, (D, .lst vsa) :: G.fl⟩ ρ σ H' ∧ Apt ρ σ D ∧ DaAll X.K (hide (D :: G.O) H') vsa acc ∧
        goLc g wt we (wipeE ρ vs) rest acc (fun acc => ∀ (a : Addr) (vs : List V) (ds : List PyData) (H' : Hp), PyData.list acc = .list ds → Rep T X.K ⟨G.Hb, a :: G.O, G.fl⟩ ρ σ H' → a ∉ G.O → Apt ρ σ a → H' a = some (.lst vs) → DaAll X.K (hide (a :: G.O) H') vs ds → Q (.ref a) H'), fun H' hN' => ?_, fun x H3 hy => ?_⟩
      · obtain ⟨vsa, acc, h1, h2, h3, h4⟩ := hN'
        exact ⟨ds.length - (i + 1), by omega, vsa, acc, rfl, h1, h2, h3, by rw [hrest]; exact h4⟩
      · obtain ⟨al, hx⟩ := yld x H3 hy
        have r3 := r2.alloc al
        have e3 : ExtN (hide (D :: G.O) H2) (hide (D :: G.O) H3) := ext_hide fun b o _ h _ => al b o h
        have ha3 := ha.ext e3
        have r3b := r3.rebase
        -- the target
        have hgk := kg _ _ _ hgo
        refine ⟨_, _, d, (r3b.wipe vs), hx, mg _ _ _ _ (fun ρ2 h2 σ2 r4 w4 => ⟨?_, ?_⟩) hgk⟩
        · have := w4 vs hsl
          rw [this, wipe_wipe]
        · obtain ⟨h2, off, _⟩ := h2
          have hw4 : L2.wipe σ2 vs = L2.wipe σ vs := by rw [w4 vs hsl, wipe_wipe]
          have offv : Off vs ρ ρ2 := fun j hj => by
            rw [off j (fun z => hj (hsl j z)), wipeE_get hj]
          refine liftB_intro mt r4 (mt _ _ _ _ _ (fun k hk H5 r5 e5 => ?_) (fun _ z => z.elim) h2)
          have back : ∀ {H6 : Hp}, Rep T X.K ⟨hide (D :: G.O) H3, D :: G.O, (D, .lst vsa) :: G.fl⟩ ρ2 σ2 H6 → Rep T X.K ⟨hide G.O H1, D :: G.O, (D, .lst vsa) :: G.fl⟩ ρ σ H6 := fun {H6} r6 => r3.unwipe r6 no offv hw4
          cases k with
          | false => exact ⟨vsa, acc, back r5, ap, ha3.ext r5.ext, hk⟩
          | true =>
            have hk : we ρ2 (fun y => acc.length < sizeLine ∧ goLc g wt we (wipeE ρ vs) rest (acc ++ [y]) _) (fun _ => False) := hk
            refine lift_intro me r5 (me _ _ _ _ _ (fun y hy v H6 r6 e6 a6 => ?_) (fun _ z => z.elim) hk)
            have r7 := back r6
            refine ⟨vsa, (r6.fly _ List.mem_cons_self).2, by rw [ha3.length]; exact hy.1, vsa ++ [v], acc ++ [y], ?_, ap, ?_, hy.2⟩
            · exact (r7.put ap (fun q hq z => nD (by rw [← z]; exact (r1.fly q hq).1)) (.inl ⟨_, rfl⟩) (.inl ⟨_, rfl⟩)).1
            · rw [show hide (D :: G.O) (upd H6 D (.lst (vsa ++ [v]))) = hide (D :: G.O) H6 from hide_upd List.mem_cons_self]
              exact (ha3.ext r6.ext).append (.cons a6 .nil)
theorem df_lc {elt tg iter : Expr} {ifs : List Expr} {scope : Scope} {own : List (Str × Nat)} {wi : PWs} {g : GD} {wt : PWB} {we : PW} {sl : List Nat} (hc : X.calm = true) (hN : X.N.Nodup) (hi : DI T X W tg iter wi) (ok : BlkOk X.N X.env.scope scope own) (hsl : ∀ i ∈ sl, i ∈ own.map (·.2))
    (hg : ∀ (s : Shared) (H : Hp) (C : Addr) (cl : List (Str × Addr)) (fp : List Addr), DG T (X.blk s H scope (compEnvC scope cl C X.env) fp) sl tg g) (ht : ∀ (s : Shared) (H : Hp) (C : Addr) (cl : List (Str × Addr)) (fp : List Addr), DTs T (X.blk s H scope (compEnvC scope cl C X.env) fp) W0 ifs wt)
    (he : ∀ (s : Shared) (H : Hp) (C : Addr) (cl : List (Str × Addr)) (fp : List Addr), DE T (X.blk s H scope (compEnvC scope cl C X.env) fp) W0 elt we) (hs : ∀ x, foldedSetIterable iter X.env x = pure x := by intro _; rfl) :
    DF T X W (.ListComp elt [⟨tg, iter, ifs, 0⟩] scope pos) (wLc wi g wt we (own.map (·.2))) := by
  have hg0 := hg X.s_0 X.H_0 0 [] []
  have ht0 := ht X.s_0 X.H_0 0 [] []
  have he0 := he X.s_0 X.H_0 0 [] []
  refine ⟨pe_mono (pe_lc (wi := liftI T X.K W wi) (g := liftG T X.K sl g) (tt := liftB T X.K W0 wt) (te := lift T X.K W0 we) hc hN hi.pi ok (fun s H C cl fp => (hg s H C cl fp).pg) (fun s H C cl fp => (ht s H C cl fp).pt) (fun s H C cl fp => (he s H C cl fp).pe) hs) fun σ H Q q => lc_imp hi.mono hg0.mono hg0.keep ht0.mono he0.mono hsl q, mono_Lc hi.mono hg0.mono ht0.mono he0.mono⟩
end
end PL
set_option Elab.async false
set_option linter.all false
set_option maxRecDepth 100000
set_option maxHeartbeats 2000000
namespace PL
open PySem PySem.Spec PyProof.Rows L2
open LamX (ExtN Tabs TabS)
def All2 {α β : Type} (R : α → β → Prop) : List α → List β → Prop
  | [], [] => True
  | a :: as, b :: bs => R a b ∧ All2 R as bs
  | _, _ => False
theorem All2.length {α β : Type} {R : α → β → Prop} : ∀ {as : List α} {bs : List β}, All2 R as bs → as.length = bs.length
  | [], [], _ => rfl
  | _ :: _, _ :: _, h => congrArg (· + 1) (All2.length h.2)
  | [], _ :: _, h => h.elim
  | _ :: _, [], h => h.elim
theorem All2.get {α β : Type} {R : α → β → Prop} : ∀ {as : List α} {bs : List β} {i : Nat} {a : α}, All2 R as bs → as[i]? = some a → ∃ b, bs[i]? = some b ∧ R a b
  | [], _, _, _, _, h => by simp at h
  | _ :: _, [], _, _, h, _ => h.elim
  | x :: as, y :: bs, 0, a, h, e => by
    simp at e
    subst e
    exact ⟨y, rfl, h.1⟩
  | x :: as, y :: bs, i + 1, a, h, e => by
    obtain ⟨b, h1, h2⟩ := All2.get (i := i) h.2 (by simpa using e)
    exact ⟨b, by simpa using h1, h2⟩
theorem All2.map {α β γ : Type} {R : β → γ → Prop} {f : α → β} {g : α → γ} : ∀ {xs : List α}, (∀ x ∈ xs, R (f x) (g x)) → All2 R (xs.map f) (xs.map g)
  | [], _ => trivial
  | x :: xs, h => ⟨h x List.mem_cons_self, All2.map fun y hy => h y (List.mem_cons_of_mem _ hy)⟩
theorem pass_map {α : Type} (d : α) : ∀ bs : List (Option α), (passing (fun i => (bs[i]?.join).isSome) bs.length 0).map (fun i => (bs[i]?.join).getD d) = bs.filterMap id := by
  intro bs
  unfold passing
  rw [List.drop_zero]
  induction bs with
  | nil => rfl
  | cons b r ih =>
    rw [List.length_cons, List.range_succ_eq_map, List.filter_cons, List.filterMap_cons, List.filter_map]
    have e : ((fun i => ((b :: r)[i]?.join).isSome) ∘ Nat.succ) = fun i => (r[i]?.join).isSome := by
      funext i
      simp
    rw [e]
    have e2 : List.map (fun i => ((b :: r)[i]?.join).getD d) (List.map Nat.succ (List.filter (fun i => (r[i]?.join).isSome) (List.range r.length))) = r.filterMap id := by
      rw [List.map_map, ← ih]
      apply List.map_congr_left
      intro i _
      simp
    cases b with
    | none => simpa using e2
    | some x =>
      simp only [List.getElem?_cons_zero, Option.join_some, Option.isSome_some, if_true, List.map_cons, Option.getD_some, id]
      rw [e2]
/-- the elements: each item's test and value -/
def wGen {α : Type} (toD : α → PyData) (wi : PWs) (g : GD) (wt : PWB) (we : PW) (vs : List Nat) (R : List α → PyData) : PW := fun ρ Q E => NoOwn vs ρ ∧ wi ρ (fun ds => ∃ bs : List (Option α),
  All2 (fun d ob => g d (wipeE ρ vs) fun ρ2 => wt ρ2 (fun k => match ob with | some y => k = true ∧ we ρ2 (fun z => z = toD y) (fun _ => False) | none => k = false) (fun _ => False)) ds bs ∧ Q (R (bs.filterMap id))) E
def rAnyD (l : List Bool) : PyData := .bool (l.any id)
def rAllD (l : List Bool) : PyData := .bool (l.all id)
def rSumD (l : List Int) : PyData := .int l.sum
theorem mono_Gen {α : Type} {toD : α → PyData} {wi : PWs} {g : GD} {wt : PWB} {we : PW} {vs : List Nat} {R : List α → PyData} (mi : Mono wi) : Mono (wGen toD wi g wt we vs R) := fun ρ Q Q' E E' hq he h =>
  ⟨h.1, mi _ _ _ _ _ (fun ds ⟨bs, h1, h2⟩ => ⟨bs, h1, hq _ h2⟩) he h.2⟩
section
variable {T : Tb} {X : Cx} {W : WX} {pos p gpos : Pos} {e a b c : Expr} {K : PySem.W.Frag} {G G2 : Gh} {ρ ρ2 : En} {σ σ2 : L2.St} {H H' : Hp}
theorem Rep.tabbed {P : Addr} (r : Rep T K G ρ σ H) (tb : GxR.Tabbed P H H') (hP : GxR.TabG H P) (hl : P ∉ T.ap) : Rep T K G ρ σ H' := by
  obtain ⟨ps, hPs, _⟩ := hP
  have ne : ∀ {b : Addr} {o : HO}, H b = some o → (∀ ps, o ≠ .tbl ps) → b ≠ P := fun {b o} h hn z => by
    rw [z, hPs] at h
    cases h
    exact hn _ rfl
  have tg : ∀ {P'}, GxR.TabG H P' → GxR.TabG H' P' := fun {P'} ⟨ps', h1, h2⟩ => by
    by_cases z : P' = P
    · rw [z]; exact tb.1
    · exact ⟨ps', by rw [tb.2 P' z]; exact h1, h2⟩
  have tc : ∀ {c P'}, CdAt H c P' → CdAt H' c P' := fun {c P'} ⟨oc, h1, h2⟩ => ⟨oc, by rw [tb.2 c (ne h1 fun ps z => by cases z)]; exact h1, h2⟩
  refine r.step (ext_hide fun b o _ h hn => by rw [tb.2 b (ne h hn)]; exact h) (fun a ha => by obtain ⟨o, h, hn⟩ := r.dom a ha; exact tb.2 a (ne h hn)) ⟨fun P' hP' => tg (r.tab.g P' hP'), fun q hq => ?_, fun P' hP' => ?_, fun q hq => tc (r.tab.c q hq), fun q hq => ⟨by
    obtain ⟨h1, h2⟩ := r.tab.k q hq
    rw [tb.2 _ (ne h1 fun ps z => by
      rcases h2 with ⟨oc, h⟩ | ⟨s, h⟩
      · rw [h] at z; cases z
      · rw [h] at z; exact LamX.codeO_ne ps z)]
    exact h1, (r.tab.k q hq).2⟩⟩
  · obtain ⟨ps', h1, h2, h3⟩ := r.tab.l q hq
    refine ⟨ps', by rw [tb.2 _ fun z => hl (List.mem_append_left _ (List.mem_map.mpr ⟨q, hq, z⟩))]; exact h1, h2, fun pos cv hcv => ?_⟩
    obtain ⟨c', e, h4⟩ := h3 pos cv hcv
    exact ⟨c', e, by rw [tb.2 c' (ne h4 fun ps z => by unfold LamX.CodeO at z; cases z)]; exact h4⟩
  · obtain ⟨ps', h1, h2, h3⟩ := r.tab.n P' hP'
    refine ⟨ps', by rw [tb.2 _ fun z => hl (List.mem_append_right _ (by rw [← z]; exact hP'))]; exact h1, h2, fun pos cv hcv => ?_⟩
    obtain ⟨c0, P0, e1, e2, e3, e4⟩ := h3 pos cv hcv
    exact ⟨c0, P0, e1, tc e2, tg e3, e4⟩
theorem gx_core {α : Type} {toD : α → PyData} {toV : α → V} (dflt : α) (hTV : ∀ K H v y, Da K H v (toD y) → v = toV y) {k : Nat} {P : Addr} {elt tg iter : Expr} {ifs : List Expr} {scope : Scope} {own : List (Str × Nat)} {wi : PWs} {g : GD} {wt : PWB} {we : PW} {sl : List Nat} {Q : VK}
    {R : List α → PyData} {vR : List α → V} (hda : ∀ K H l, Da K H (vR l) (R l)) {rr : VK → Nat → (Nat → Bool) → (Nat → V) → (Nat → Hp → Prop) → Prop} (hPT : P ∈ T.tg) (hl : P ∉ T.ap) (mi : Mono wi) (hsl : ∀ i ∈ sl, i ∈ own.map (·.2))
    (mg : ∀ d ρ Q Q', (∀ r, Q r → Q' r) → g d ρ Q → g d ρ Q') (kg : ∀ d ρ Q, g d ρ Q → g d ρ fun ρ' => Q ρ' ∧ Off sl ρ ρ' ∧ Shd sl ρ') (mt : Mono wt) (me : Mono we)
    (hrr : ∀ (bs : List (Option α)) (Gd : Nat → Hp → Prop), (∀ i H', Gd i H' → Q (vR (bs.filterMap id)) H') → rr Q bs.length (fun i => (bs[i]?.join).isSome) (fun i => toV ((bs[i]?.join).getD dflt)) Gd)
    (h : lift T X.K W (wGen toD wi g wt we (own.map (·.2)) R) σ H Q) : GxI.tGxC (TOk T) (liftI T X.K W wi) (liftG T X.K sl g) (liftB T X.K W0 wt) (lift T X.K W0 we) (own.map (·.2)) P rr σ H Q := by
  generalize hvs : own.map (·.2) = vs at hsl h ⊢
  obtain ⟨G, ρ, r, no, q⟩ := h
  refine ⟨G, ρ, r, mi _ _ _ _ _ (fun ds hds J H1 r1 wk => ⟨r1.tab, r1.tab.g P hPT, fun H2 tb => ?_⟩) (fun _ z => z) q⟩
  obtain ⟨bs, h1, h2⟩ := hds
  have r2 := r1.tabbed tb (r1.tab.g P hPT) hl
  have e12 : ExtN (hide G.O H1) (hide G.O H2) := (r1.rebase.tabbed tb (r1.tab.g P hPT) hl).ext
  refine ⟨ds.length, fun i => (bs[i]?.join).isSome, fun i => toV ((bs[i]?.join).getD dflt), fun _ H' => Rep T X.K ⟨hide G.O H1, G.O, G.fl⟩ ρ σ H', r1.rebase.tabbed tb (r1.tab.g P hPT) hl, ⟨fun i H3 hi r3 => ?_, fun H3 r3 => ?_⟩, ?_⟩
  · have dm : ∀ a ∈ G.O, H3 a ≠ none := fun a ha z => by obtain ⟨o, e, _⟩ := r3.dom a ha; rw [z] at e; cases e
    obtain ⟨wk1, wk2⟩ := wk G.O H3 r3.ext dm
    obtain ⟨jgo, yld⟩ := wk1 i ds[i] (List.getElem?_eq_getElem hi)
    refine ⟨jgo, fun x H4 hy => ?_⟩
    obtain ⟨al, hx⟩ := yld x H4 hy
    have r4 := r3.alloc al
    obtain ⟨ob, hob, hR⟩ := h1.get (List.getElem?_eq_getElem hi)
    refine ⟨_, _, _, (r4.rebase.wipe vs), hx, mg _ _ _ _ (fun ρ2 h2 σ2 r5 w5 => ⟨?_, ?_⟩) (kg _ _ _ hR)⟩
    · rw [w5 vs hsl, wipe_wipe]
    · obtain ⟨h2, off, _⟩ := h2
      have hw5 : L2.wipe σ2 vs = L2.wipe σ vs := by rw [w5 vs hsl, wipe_wipe]
      have offv : Off vs ρ ρ2 := fun j hj => by rw [off j (fun z => hj (hsl j z)), wipeE_get hj]
      have back : ∀ {H6 : Hp}, Rep T X.K ⟨hide G.O H4, G.O, G.fl⟩ ρ2 σ2 H6 → Rep T X.K ⟨hide G.O H1, G.O, G.fl⟩ ρ σ H6 := fun {H6} r6 => r4.unwipe r6 no offv hw5
      refine liftB_intro mt r5 (mt _ _ _ _ _ (fun kk hk H6 r6 e6 => ?_) (fun _ z => z.elim) h2)
      cases ob with
      | none =>
        have hk : kk = false := hk
        subst hk
        exact ⟨by rw [hob]; rfl, ⟨fun z => Bool.noConfusion z, fun _ => back r6⟩⟩
      | some y =>
        obtain ⟨hk, hwe⟩ := hk
        subst hk
        refine ⟨by rw [hob]; rfl, fun _ => ?_, fun z => Bool.noConfusion z⟩
        refine lift_intro me r6 (me _ _ _ _ _ (fun z hz v H7 r7 e7 a7 => ?_) (fun _ z => z.elim) hwe)
        subst hz
        exact ⟨by rw [hob]; exact hTV _ _ _ _ a7, back r7⟩
  · have dm : ∀ a ∈ G.O, H3 a ≠ none := fun a ha z => by obtain ⟨o, e, _⟩ := r3.dom a ha; rw [z] at e; cases e
    exact (wk G.O H3 r3.ext dm).2 _ (Nat.le_refl _)
  · rw [h1.length]
    exact hrr bs _ fun i H' r' => h2 _ H' (r'.unbase r1.ext) (hda _ _ _)
theorem de_gen {α : Type} {toD : α → PyData} {toV : α → V} (dflt : α) (hTV : ∀ K H v y, Da K H v (toD y) → v = toV y) {R : List α → PyData} {vR : List α → V} (hda : ∀ K H l, Da K H (vR l) (R l)) {k : Nat} {cc P : Addr} {f : Str} {id' : String} {rr : VK → Nat → (Nat → Bool) → (Nat → V) → (Nat → Hp → Prop) → Prop} {elt tg iter : Expr} {ifs : List Expr} {scope : Scope} {own : List (Str × Nat)} {wi : PWs} {g : GD} {wt : PWB} {we : PW} {sl : List Nat}
    (hrr : ∀ (Q : VK) (bs : List (Option α)) (Gd : Nat → Hp → Prop), (∀ i H', Gd i H' → Q (vR (bs.filterMap id)) H') → rr Q bs.length (fun i => (bs[i]?.join).isSome) (fun i => toV ((bs[i]?.join).getD dflt)) Gd)
    (B : GxI.GxB X f id' rr) (hgl : Gl X f) (hm : X.mg f = none) (hr : Room (k + 1) X.A) (hc : X.calm = true) (hN : X.N.Nodup) (TB : GxI.TabX X cc P (TOk T)) (hPT : P ∈ T.tg) (hl : P ∉ T.ap) (hcode : X.env.code = .ref cc) (gs : GxI.GxS X.env scope) (ok : BlkOk X.N X.env.scope scope own) (hsl : ∀ i ∈ sl, i ∈ own.map (·.2))
    (hi : DI T X W tg iter wi)
    (hg : ∀ (A : Around) (s : Shared) (H : Hp) (C : Addr) (cd : Value) (cl : List (Str × Addr)) (fp : List Addr), DG T (GxI.gcx X A s H (genEnv scope cl C cd builtinsNs X.env) fp) sl tg g)
    (ht : ∀ (A : Around) (s : Shared) (H : Hp) (C : Addr) (cd : Value) (cl : List (Str × Addr)) (fp : List Addr), Room k A → DTs T (GxI.gcx X A s H (genEnv scope cl C cd builtinsNs X.env) fp) W0 ifs wt)
    (he : ∀ (A : Around) (s : Shared) (H : Hp) (C : Addr) (cd : Value) (cl : List (Str × Addr)) (fp : List Addr), Room k A → DE T (GxI.gcx X A s H (genEnv scope cl C cd builtinsNs X.env) fp) W0 elt we)
    (hs : ∀ v, genFold iter X.env v = pure v := by intro _; rfl) (hn : f ≠ "__name__" := by decide) (hd : (f == ("__debug__" : Str)) = false := by decide)
    (hst : starEach [.GeneratorExp elt [⟨tg, iter, ifs, 0⟩] scope gpos] X.env = (false, eval (.GeneratorExp elt [⟨tg, iter, ifs, 0⟩] scope gpos) X.env) :: starEach [] X.env := by rfl) :
    DE T X W (.Call (.Name f p) [.GeneratorExp elt [⟨tg, iter, ifs, 0⟩] scope gpos] [] pos) (wGen toD wi g wt we (own.map (·.2)) R) := by
  have hrk : Room k X.A := hr.mono (Nat.le_succ _)
  have ht0 := ht X.A X.s_0 X.H_0 0 .none [] [] hrk
  have he0 := he X.A X.s_0 X.H_0 0 .none [] [] hrk
  have hg0 := hg X.A X.s_0 X.H_0 0 .none [] []
  exact ⟨pe_mono (GxI.pe_gx (wi := liftI T X.K W wi) (g := liftG T X.K sl g) (tt := liftB T X.K W0 wt) (te := lift T X.K W0 we) B hgl hm hr hc hN TB hcode gs ok hi.pi (fun A s H C cd cl fp _ => (hg A s H C cd cl fp).pg) (fun A s H C cd cl fp hR => (ht A s H C cd cl fp hR).pt) (fun A s H C cd cl fp hR => (he A s H C cd cl fp hR).pe) hs hn hd hst)
    fun σ H Q q => gx_core (k := k) (P := P) (elt := elt) (tg := tg) (iter := iter) (ifs := ifs) (scope := scope) (own := own) dflt hTV hda hPT hl hi.mono hsl hg0.mono hg0.keep ht0.mono he0.mono (hrr Q) q, mono_Gen hi.mono⟩
theorem hrr_any (Q : VK) (bs : List (Option Bool)) (Gd : Nat → Hp → Prop) (h : ∀ i H', Gd i H' → Q (.bl ((bs.filterMap id).any id)) H') : GxI.rAny Q bs.length (fun i => (bs[i]?.join).isSome) (fun i => .bl ((bs[i]?.join).getD false)) Gd :=
  ⟨fun i => (bs[i]?.join).getD false, rfl, fun i H' g => by
    have e := pass_map false bs
    have : (passing (fun i => (bs[i]?.join).isSome) bs.length 0).any (fun i => (bs[i]?.join).getD false) = (bs.filterMap id).any id := by rw [← e, List.any_map]; rfl
    rw [this]
    exact h i H' g⟩
theorem hrr_all (Q : VK) (bs : List (Option Bool)) (Gd : Nat → Hp → Prop) (h : ∀ i H', Gd i H' → Q (.bl ((bs.filterMap id).all id)) H') : GxI.rAll Q bs.length (fun i => (bs[i]?.join).isSome) (fun i => .bl ((bs[i]?.join).getD false)) Gd :=
  ⟨fun i => (bs[i]?.join).getD false, rfl, fun i H' g => by
    have e := pass_map false bs
    have : (passing (fun i => (bs[i]?.join).isSome) bs.length 0).all (fun i => (bs[i]?.join).getD false) = (bs.filterMap id).all id := by rw [← e, List.all_map]; rfl
    rw [this]
    exact h i H' g⟩
theorem hrr_sum (Q : VK) (bs : List (Option Int)) (Gd : Nat → Hp → Prop) (h : ∀ i H', Gd i H' → Q (.int (bs.filterMap id).sum) H') : GxI.rSum Q bs.length (fun i => (bs[i]?.join).isSome) (fun i => .int ((bs[i]?.join).getD 0)) Gd :=
  ⟨fun i => (bs[i]?.join).getD 0, rfl, fun i H' g => by
    have e := pass_map (0 : Int) bs
    rw [e]
    exact h i H' g⟩
end
end PL
set_option Elab.async false
set_option linter.all false
set_option maxRecDepth 100000
set_option maxHeartbeats 2000000
namespace PL
open PySem PySem.Spec PyProof.Rows L2
open LamX (ExtN Tabs TabS)
structure PEn where
  nx : En → Prop
  rt : PyData → Prop
  bk : En → Prop := fun _ => False
  ct : En → Prop := fun _ => False
  ex : Exn → Prop := fun _ => False
  rp : PyData → Prop := fun _ => False
structure PEn.Le (D D' : PEn) : Prop where
  nx : ∀ ρ, D.nx ρ → D'.nx ρ
  rt : ∀ d, D.rt d → D'.rt d
  bk : ∀ ρ, D.bk ρ → D'.bk ρ
  ct : ∀ ρ, D.ct ρ → D'.ct ρ
  ex : ∀ x, D.ex x → D'.ex x
  rp : ∀ d, D.rp d → D'.rp d
abbrev SW := En → PEn → Prop
def MonoS (w : SW) : Prop := ∀ ρ D D', PEn.Le D D' → w ρ D → w ρ D'
section
variable (T : Tb) (K : PySem.W.Frag) (W : WX)
def FlApt (fl : List (Addr × HO)) (ρ : En) (σ : L2.St) : Prop := ∀ q ∈ fl, Apt ρ σ q.1
def endS (G : Gh) (D : Ends) : PEn where
  nx ρ' := ∀ σ' H' O', Rep T K ⟨G.Hb, O', G.fl⟩ ρ' σ' H' → FlApt G.fl ρ' σ' → D.nx σ' H'
  rt d := ∀ v ρ' σ' H' O', Rep T K ⟨G.Hb, O', G.fl⟩ ρ' σ' H' → Da K (hide O' H') v d → D.rt v H'
  rp d := ∀ v ρ' σ' H' O', Rep T K ⟨G.Hb, O', G.fl⟩ ρ' σ' H' → Plt (hide O' H') v → Da K (hide O' H') v d → D.rt v H'
  bk ρ' := ∀ σ' H' O', Rep T K ⟨G.Hb, O', G.fl⟩ ρ' σ' H' → FlApt G.fl ρ' σ' → D.bk σ' H'
  ct ρ' := ∀ σ' H' O', Rep T K ⟨G.Hb, O', G.fl⟩ ρ' σ' H' → FlApt G.fl ρ' σ' → D.ct σ' H'
  ex x := ∀ ρ' σ' H' O' cls dd, Rep T K ⟨G.Hb, O', G.fl⟩ ρ' σ' H' → ExR K x cls dd (hide O' H') → W cls dd σ' H'
def liftS (w : SW) : TS := fun D σ H => ∃ G ρ, Rep T K G ρ σ H ∧ FlApt G.fl ρ σ ∧ w ρ (endS T K W G D)
end
structure DS (T : Tb) (X : Cx) (W : WX) (st : Stmt) (w : SW) : Prop where
  ps : PS X st (liftS T X.K W w)
  mono : MonoS w
structure DSs (T : Tb) (X : Cx) (W : WX) (st : List Stmt) (w : SW) : Prop where
  ps : PSs X st (liftS T X.K W w)
  mono : MonoS w
theorem ps_mono {X : Cx} {e : Stmt} {t t' : TS} (h : PS X e t) (i : ∀ D σ H, t' D σ H → t D σ H) : PS X e t' := ⟨fun pins s σ H Q I q => h.run pins s σ H Q I (i _ _ _ q)⟩
theorem pss_mono {X : Cx} {e : List Stmt} {t t' : TS} (h : PSs X e t) (i : ∀ D σ H, t' D σ H → t D σ H) : PSs X e t' := ⟨fun pins s σ H Q I q => h.run pins s σ H Q I (i _ _ _ q)⟩
section
variable {T : Tb} {X : Cx} {W : WX} {pos p pos' apos : Pos} {e a b c : Expr} {st : Stmt} {rest : List Stmt} {K : PySem.W.Frag} {G G2 : Gh} {ρ ρ2 : En} {σ σ2 : L2.St} {H H' : Hp} {D : Ends}
theorem ex_out {O' : List Addr} {x : Exn} (h : (endS T K W G D).ex x) : exOut T K W ⟨G.Hb, O', G.fl⟩ ρ σ x := fun H' cls dd r q => h ρ σ H' O' cls dd r q
theorem ex_out' {x : Exn} (h : (endS T K W G D).ex x) : exOut T K W G ρ σ x := ex_out (O' := G.O) h
def sNil : SW := fun ρ D => D.nx ρ
def sSeq (u v : SW) : SW := fun ρ D => u ρ { D with nx := fun ρ' => v ρ' D }
theorem le_nx {D D' : PEn} (l : PEn.Le D D') {v : SW} (mv : MonoS v) : PEn.Le { D with nx := fun ρ' => v ρ' D } { D' with nx := fun ρ' => v ρ' D' } := ⟨fun ρ h => mv _ _ _ l h, l.rt, l.bk, l.ct, l.ex, l.rp⟩
theorem dss_nil : DSs T X W [] sNil := ⟨pss_mono pss_nil fun D σ H q => by
  obtain ⟨G, ρ, r, fa, q⟩ := q
  exact q σ H G.O r fa, fun _ _ _ l h => l.nx _ h⟩
theorem dss_cons {u v : SW} (h1 : DS T X W st u) (h2 : DSs T X W rest v) : DSs T X W (st :: rest) (sSeq u v) :=
  ⟨pss_mono (pss_cons h1.ps h2.ps) fun D σ H q => by
    obtain ⟨G, ρ, r, fa, q⟩ := q
    refine ⟨G, ρ, r, fa, h1.mono ρ { endS T X.K W G D with nx := fun ρ' => v ρ' (endS T X.K W G D) } _ ⟨fun ρ' h σ' H' O' r' fa' => ?_, fun _ h => h, fun _ h => h, fun _ h => h, fun _ h => h, fun _ h => h⟩ q⟩
    exact ⟨⟨G.Hb, O', G.fl⟩, ρ', r', fa', h⟩,
   fun ρ D D' l h => h1.mono _ _ _ (le_nx l h2.mono) h⟩
theorem dss_one {u : SW} (h1 : DS T X W st u) : DSs T X W [st] u := ⟨pss_one h1.ps, h1.mono⟩
def sRet (w : PW) : SW := fun ρ D => w ρ D.rt D.ex
theorem ds_ret {w : PW} (h : DE T X W e w) : DS T X W (.Return (some e) pos) (sRet w) := ⟨ps_mono (ps_ret h.pe) fun D σ H q => by
  obtain ⟨G, ρ, r, fa, q⟩ := q
  exact ⟨G, ρ, r, h.mono _ _ _ _ _ (fun d hd v H' r' a => hd v ρ σ H' G.O r' a) (fun _ z => ex_out' z) q⟩, fun ρ D D' l q => h.mono _ _ _ _ _ l.rt l.ex q⟩
def sIf (t : PWB) (u v : SW) : SW := fun ρ D => t ρ (fun k => if k = true then u ρ D else v ρ D) D.ex
theorem ds_if {sa sb : List Stmt} {t : PWB} {u v : SW} (hc : DT T X W c t) (ha : DSs T X W sa u) (hb : DSs T X W sb v) : DS T X W (.If c sa sb pos) (sIf t u v) :=
  ⟨ps_mono (ps_if hc.pt ha.ps hb.ps) fun D σ H q => by
    obtain ⟨G, ρ, r, fa, q⟩ := q
    refine ⟨G, ρ, r, hc.mono _ _ _ _ _ (fun k hk H' r' => ?_) (fun _ z => ex_out' z) q⟩
    by_cases z : k = true
    · rw [if_pos z] at hk ⊢; exact ⟨G, ρ, r', fa, hk⟩
    · rw [if_neg z] at hk ⊢; exact ⟨G, ρ, r', fa, hk⟩,
   fun ρ D D' l q => hc.mono _ _ _ _ _ (fun k hk => by
    by_cases z : k = true
    · rw [if_pos z] at hk ⊢; exact ha.mono _ _ _ l hk
    · rw [if_neg z] at hk ⊢; exact hb.mono _ _ _ l hk) l.ex q⟩
theorem Rep.setSl (r : Rep T K G ρ σ H) {i : Nat} {v : V} {s : Sl} (h : SlOk K T.dc G.O H s (some v)) (hs : s.owned = true → ∀ b, v = .ref b → ∀ (j : Nat) (t : Sl), j ≠ i → ρ[j]? = some t → t.owned = true → σ[j]? ≠ some (some (.ref b))) : Rep T K G (ρ.set i s) (σ.set i (some v)) H where
  len := by rw [List.length_set, List.length_set]; exact r.len
  slot j t ht := by
    by_cases e : i = j
    · subst e
      have hl : i < ρ.length := by
        by_cases z : i < ρ.length
        · exact z
        · rw [List.getElem?_eq_none (by rw [List.length_set]; omega)] at ht; cases ht
      rw [List.getElem?_set_self hl] at ht
      cases ht
      exact ⟨some v, List.getElem?_set_self (by rw [← r.len]; exact hl), h⟩
    · rw [List.getElem?_set_ne e] at ht ⊢
      exact r.slot j t ht
  sep j k t u a hjk hj hk ht hu e1 e2 := by
    have at_i : ∀ {l : Nat} {u : Sl}, l = i → (ρ.set i s)[l]? = some u → u = s := fun {l u} e hl => by
      subst e
      by_cases hz : l < ρ.length
      · rw [List.getElem?_set_self hz] at hl; cases hl; rfl
      · rw [List.getElem?_eq_none (by rw [List.length_set]; omega)] at hl; cases hl
    have at_v : ∀ {l : Nat} {b : Addr}, l = i → (σ.set i (some v))[l]? = some (some (.ref b)) → v = .ref b := fun {l b} e hl => by
      subst e
      by_cases hz : l < σ.length
      · rw [List.getElem?_set_self hz] at hl; cases hl; rfl
      · rw [List.getElem?_eq_none (by rw [List.length_set]; omega)] at hl; cases hl
    by_cases zj : j = i
    · have zk : k ≠ i := fun z => hjk (zj.trans z.symm)
      have es := at_i zj hj
      rw [List.getElem?_set_ne (Ne.symm zk)] at hk e2
      rw [es] at ht
      exact hs ht a (at_v zj e1) k u zk hk hu e2
    · rw [List.getElem?_set_ne (Ne.symm zj)] at hj e1
      by_cases zk : k = i
      · have es := at_i zk hk
        rw [es] at hu
        exact hs hu a (at_v zk e2) j t zj hj ht e1
      · rw [List.getElem?_set_ne (Ne.symm zk)] at hk e2
        exact r.sep j k t u a hjk hj hk ht hu e1 e2
  tab := r.tab
  ext := r.ext
  dom := r.dom
  fly := r.fly
  dcs := r.dcs
theorem FlApt.setSl {fl : List (Addr × HO)} (fa : FlApt fl ρ σ) {i : Nat} {v : V} {s : Sl} (h : s.owned = true → ∀ q ∈ fl, v ≠ .ref q.1) : FlApt fl (ρ.set i s) (σ.set i (some v)) := fun q hq j t hj ht e => by
  by_cases z : i = j
  · subst z
    by_cases hl : i < ρ.length
    · rw [List.getElem?_set_self hl] at hj
      cases hj
      by_cases hl2 : i < σ.length
      · rw [List.getElem?_set_self hl2] at e
        cases e
        exact h ht q hq rfl
      · rw [List.getElem?_eq_none (by rw [List.length_set]; omega)] at e; cases e
    · rw [List.getElem?_eq_none (by rw [List.length_set]; omega)] at hj; cases hj
  · rw [List.getElem?_set_ne z] at hj e
    exact fa q hq j t hj ht e
theorem FlApt.setSh {fl : List (Addr × HO)} (fa : FlApt fl ρ σ) {i : Nat} {v : V} {d : PyData} : FlApt fl (ρ.set i (.sh d)) (σ.set i (some v)) := fa.setSl fun h => by cases h
def sSet (i : Nat) (w : PW) : SW := fun ρ D => w ρ (fun d => D.nx (ρ.set i (.sh d))) D.ex
theorem ds_set {i : Nat} {x : Str} {w : PW} (hN : X.N.Nodup) (hi : X.N[i]? = some x) (hx : Loc X.env.scope x) (h : DE T X W e w) (hs : swapsWith e (some (.Name x pos')) pos.line X.env = pure false := by rfl)
    (hf : X.fn x = true ∨ X.env.scope.names.lookup x = some .local := by first | exact .inl rfl | exact .inr rfl | assumption) : DS T X W (.Assign [.Name x pos'] e pos) (sSet i w) :=
  ⟨ps_mono (ps_set hN hi hx h.pe hs hf) fun D σ H q => by
    obtain ⟨G, ρ, r, fa, q⟩ := q
    exact ⟨G, ρ, r, h.mono _ _ _ _ _ (fun d hd v H' r' a => hd _ H' G.O (r'.setSh a) fa.setSh) (fun _ z => ex_out' z) q⟩, fun ρ D D' l q => h.mono _ _ _ _ _ (fun d hd => l.nx _ hd) l.ex q⟩
def sOwn (i : Nat) (w : PW) : SW := fun ρ D => w ρ (fun d => match d with | .list ds => D.nx (ρ.set i (.ol ds)) | _ => False) D.ex
theorem mono_own {i : Nat} {w : PW} (m : Mono w) : MonoS (sOwn i w) := fun ρ D D' l q => m _ _ _ _ _ (fun d hd => by cases d <;> first | exact l.nx _ hd | exact hd) l.ex q
theorem own_imp {i : Nat} {w : PW} (m : Mono w) (q : liftS T K W (sOwn i w) D σ H) : liftF T K W w σ H fun x H1 => gName i x σ H1 D.nx := by
  obtain ⟨G, ρ, r, fa, q⟩ := q
  refine ⟨G, ρ, r, m _ _ _ _ _ (fun d hd a vs ds H' ed r' na ap h1 h2 => ?_) (fun _ z => ex_out' z) q⟩
  subst ed
  exact hd _ H' (a :: G.O) (r'.setSl (s := .ol ds) ⟨a, vs, rfl, ⟨List.mem_cons_self, fun z => na (r.dcs a z).1⟩, h1, h2⟩ fun _ b eb j t _ hj ht => by cases eb; exact ap j t hj ht) (fa.setSl fun _ q hq e => na (by cases e; exact (r.fly q hq).1))
theorem ds_own {i : Nat} {x : Str} {w : PW} (hN : X.N.Nodup) (hi : X.N[i]? = some x) (hx : Loc X.env.scope x) (h : DF T X W e w) (hs : swapsWith e (some (.Name x pos')) pos.line X.env = pure false := by rfl)
    (hf : X.fn x = true ∨ X.env.scope.names.lookup x = some .local := by first | exact .inl rfl | exact .inr rfl | assumption) : DS T X W (.Assign [.Name x pos'] e pos) (sOwn i w) :=
  ⟨ps_mono (ps_set hN hi hx h.pe hs hf) fun D σ H q => own_imp h.mono q, mono_own h.mono⟩
theorem FlApt.asg {fl : List (Addr × HO)} {sl : List Nat} (fa : FlApt fl ρ σ) (h1 : Off sl ρ ρ2) (h2 : Shd sl ρ2) (hw : ∀ vs, (∀ i ∈ sl, i ∈ vs) → wipe σ2 vs = wipe σ vs) : FlApt fl ρ2 σ2 := fun q hq j t hj ht e => by
  by_cases z : j ∈ sl
  · rw [h2 j z t hj] at ht; cases ht
  · rw [h1 j z] at hj
    have := hw sl fun i hi => hi
    have e2 : (wipe σ2 sl)[j]? = (wipe σ sl)[j]? := by rw [this]
    rw [wipe_get z, wipe_get z, e] at e2
    exact fa q hq j t hj ht e2.symm
def sAsg (w : PW) (g : GD) : SW := fun ρ D => w ρ (fun d => g d ρ D.nx) D.ex
theorem ds_asg {tg : Expr} {w : PW} {g : GD} {sl : List Nat} (h : DE T X W e w) (hg : DG T X sl tg g) (hs : swapsWithSole [tg] e pos.line X.env = pure false := by rfl) (hw : swappedStores [tg] e X.env = pure none := by rfl)
    (h1 : (assignEach [tg] X.env).map (·.2) = [assign tg X.env] := by rfl) : DS T X W (.Assign [tg] e pos) (sAsg w g) :=
  ⟨ps_mono (ps_asg h.pe hg.pg hs hw h1) fun D σ H q => by
    obtain ⟨G, ρ, r, fa, q⟩ := q
    exact ⟨G, ρ, r, h.mono _ _ _ _ _ (fun d hd v H' r' a => ⟨G, ρ, d, r', a, hg.mono _ _ _ _ (fun ρ' q' σ' r'' hw => q'.1 σ' H' G.O r'' (fa.asg q'.2.1 q'.2.2 hw)) (hg.keep _ _ _ hd)⟩) (fun _ z => ex_out' z) q⟩, fun ρ D D' l q => h.mono _ _ _ _ _ (fun d hd => hg.mono _ _ _ _ (fun _ z => l.nx _ z) hd) l.ex q⟩
def sAug (i : Nat) (f : PyData → PyData → (PyData → Prop) → Prop) (w : PW) : SW := fun ρ D => match ρ[i]? with
  | some (.sh x) => w ρ (fun y => f x y fun z => D.nx (ρ.set i (.sh z))) D.ex
  | _ => False
theorem ds_aug {i : Nat} {x : Str} {op : Operator} {f : PyData → PyData → (PyData → Prop) → Prop} {w : PW} (hN : X.N.Nodup) (hi : X.N[i]? = some x) (hx : Loc X.env.scope x) (h : DE T X W e w) (ho : OpD T X (inplaceOp op) f) (mf : MonoF f)
    (hf : X.fn x = true ∨ X.env.scope.names.lookup x = some .local := by first | exact .inl rfl | exact .inr rfl | assumption) : DS T X W (.AugAssign (.Name x pos') op e pos) (sAug i f w) :=
  ⟨ps_mono (ps_aug hN hi hx h.pe ho hf) fun D σ H q => by
    obtain ⟨G, ρ, r, fa, q⟩ := q
    unfold sAug at q
    split at q
    · rename_i d hd
      obtain ⟨v0, h1, xv, h2, h3⟩ := r.slot i _ hd
      rw [h2] at h1
      refine ⟨xv, h1, lift_intro h.mono r (h.mono _ _ _ _ _ (fun y hy v H1 r1 e1 a1 => ?_) (fun _ z => ex_out' z) q)⟩
      exact ⟨G, ρ, σ, d, y, r1, .sh (h3.ext e1), .sh a1, mf _ _ _ _ (fun z hz v' H'' r'' a'' => hz _ H'' G.O (r''.setSh a'') fa.setSh) hy⟩
    · exact q.elim, fun ρ D D' l q => by
    unfold sAug at q ⊢
    split at q
    · exact h.mono _ _ _ _ _ (fun y hy => mf _ _ _ _ (fun z hz => l.nx _ hz) hy) l.ex q
    · exact q⟩
/-- writing the list in slot i -/
theorem Rep.wr (r : Rep T K G ρ σ H) {i : Nat} {ds ds' : List PyData} {a : Addr} {vs vs' : List V} (hi : ρ[i]? = some (.ol ds)) (hv : σ[i]? = some (some (.ref a))) (ha : Own T.dc G.O a) (h1 : H a = some (.lst vs)) (hx : DaAll K (hide G.O H) vs' ds') (hfl : ∀ q ∈ G.fl, q.1 ≠ a) :
    Rep T K G (ρ.set i (.ol ds')) σ (upd H a (.lst vs')) := by
  have eh : hide G.O (upd H a (.lst vs')) = hide G.O H := hide_upd ha.1
  have hil : i < ρ.length := (List.getElem?_eq_some_iff.mp hi).1
  refine ⟨by rw [List.length_set]; exact r.len, fun j s hs => ?_, fun j k s t b hjk hj hk hs ht e1 e2 => ?_, r.tab.upd h1 (.inl ⟨_, rfl⟩), by rw [eh]; exact r.ext, fun b hb => ?_, fun q hq => ?_, fun b hb => ⟨(r.dcs b hb).1, by rw [upd_ne fun z => ha.2 (by rw [← z]; exact hb)]; exact (r.dcs b hb).2.1, (r.dcs b hb).2.2⟩⟩
  · by_cases e : i = j
    · subst e
      rw [List.getElem?_set_self hil] at hs
      cases hs
      exact ⟨_, hv, a, vs', rfl, ha, upd_same, by rw [eh]; exact hx⟩
    · rw [List.getElem?_set_ne e] at hs
      obtain ⟨u, h2, h3⟩ := r.slot j s hs
      have ne : ∀ b, s.owned = true → u = some (.ref b) → b ≠ a := fun b hw eu z => by
        rw [eu, z] at h2
        exact r.sep i j _ s a e hi hs rfl hw hv h2
      refine ⟨u, h2, ?_⟩
      cases s with
      | un => trivial
      | sh d => obtain ⟨x, h4, h5⟩ := h3; exact ⟨x, h4, by rw [eh]; exact h5⟩
      | ol _ => obtain ⟨b, us, h4, h5, h6, h7⟩ := h3; exact ⟨b, us, h4, h5, by rw [upd_ne (ne b rfl h4)]; exact h6, by rw [eh]; exact h7⟩
      | ok _ => obtain ⟨b, us, h4, h5, h6, h7, h8⟩ := h3; exact ⟨b, us, h4, h5, by rw [upd_ne (ne b rfl h4)]; exact h6, h7, by rw [eh]; exact h8⟩
      | ot _ => obtain ⟨b, us, h4, h5, h6, h7, h8⟩ := h3; exact ⟨b, us, h4, h5, by rw [upd_ne (ne b rfl h4)]; exact h6, h7, by rw [eh]; exact h8⟩
      | ln b _ => obtain ⟨h4, h5, hob, h6, h8⟩ := h3; exact ⟨h4, h5, hob, by rw [upd_ne (ne b rfl h4)]; exact h6, by rw [eh]; exact h8⟩
      | on _ => obtain ⟨b, us, h4, h5, h6, h7, h8⟩ := h3; exact ⟨b, us, h4, h5, by rw [upd_ne (ne b rfl h4)]; exact h6, h7, by rw [eh]; exact h8⟩
      | sn d => obtain ⟨x, h4, h5⟩ := h3; exact ⟨x, h4, by rw [eh]; exact h5⟩
      | sk d => obtain ⟨x, h4, h5⟩ := h3; exact ⟨x, h4, by rw [eh]; exact h5⟩
      | dice => exact h3
      | scr ns => obtain ⟨b, h4, h5⟩ := h3; exact ⟨b, h4, by rw [eh]; exact h5⟩
  · have own : ∀ {l : Nat} {u : Sl}, (ρ.set i (.ol ds'))[l]? = some u → u.owned = true → ∃ u', ρ[l]? = some u' ∧ u'.owned = true := fun {l u} hl hu => by
      by_cases e : i = l
      · subst e; exact ⟨_, hi, rfl⟩
      · rw [List.getElem?_set_ne e] at hl; exact ⟨u, hl, hu⟩
    obtain ⟨s', hj', hs'⟩ := own hj hs
    obtain ⟨t', hk', ht'⟩ := own hk ht
    exact r.sep j k s' t' b hjk hj' hk' hs' ht' e1 e2
  · by_cases z : b = a
    · rw [z, upd_same]; exact ⟨_, rfl, fun ps e => by cases e⟩
    · rw [upd_ne z]; exact r.dom b hb
  · obtain ⟨h2, h3⟩ := r.fly q hq
    exact ⟨h2, by rw [upd_ne (hfl q hq)]; exact h3⟩
end
end PL
set_option Elab.async false
set_option linter.all false
set_option maxRecDepth 100000
set_option maxHeartbeats 2000000
namespace PL
open PySem PySem.Spec PyProof.Rows L2
open LamX (ExtN Tabs TabS)
section
variable {T : Tb} {X : Cx} {W : WX} {pos p pos' apos : Pos} {e a b c : Expr} {st : Stmt} {rest : List Stmt} {K : PySem.W.Frag} {G G2 : Gh} {ρ ρ2 : En} {σ σ2 : L2.St} {H H' : Hp} {D : Ends}
def sRaise (C : Addr) : SW := fun _ D => D.ex ⟨C, none⟩
theorem ds_raise {C : Addr} (hc : X.calm = true) (tk : Takes X W) (hm : PMk X e (fun _ H Q => Q (.ref C) none H)) : DS T X W (.Raise (some e) none pos) (sRaise C) :=
  ⟨ps_mono (ps_raise hc tk hm) fun D σ H q => by
    obtain ⟨G, ρ, r, fa, q⟩ := q
    exact q ρ σ H G.O _ _ r ⟨rfl, rfl⟩, fun ρ D D' l q => l.ex _ q⟩
def sEx (w : PW) : SW := fun ρ D => w ρ (fun _ => D.nx ρ) D.ex
theorem ds_ex {w : PW} (h : DE T X W e w) (hs : swapsWith e none pos.line X.env = pure false := by rfl) : DS T X W (.Expr e pos) (sEx w) :=
  ⟨ps_mono (ps_expr h.pe hs) fun D σ H q => by
    obtain ⟨G, ρ, r, fa, q⟩ := q
    exact ⟨G, ρ, r, h.mono _ _ _ _ _ (fun d hd v H' r' a => hd σ H' G.O r' fa) (fun _ z => ex_out' z) q⟩, fun ρ D D' l q => h.mono _ _ _ _ _ (fun d hd => l.nx _ hd) l.ex q⟩
def sApp (i : Nat) (w : PW) : SW := fun ρ D => match ρ[i]? with
  | some (.ol ds) => w ρ (fun d => ds.length < sizeLine ∧ D.nx (ρ.set i (.ol (ds ++ [d])))) D.ex
  | _ => False
theorem ds_app {i : Nat} {w : PW} (ha : PE X a (tVar i)) (h : DE T X W e w)
    (hs0 : swapsWith (.Call (.Attribute a "append" apos) [e] [] pos) none pos'.line X.env = pure false := by rfl)
    (hbase : attributeBase a "append" X.env (eval a X.env) = eval a X.env := by rfl)
    (hfew : ((backTo pos (starEach [e] X.env)).all (fun x => !x.1) && (backToKw pos (keywordEach [] X.env)).all (fun x => x.1.isSome)
      && decide (([e]).length + ([] : List Keyword).length + (if ([] : List Keyword).isEmpty then 0 else 1) < 30)) = true := by rfl)
    (hline : (apos.endLine == pos.line) = true := by rfl) (hs : starEach [e] X.env = (false, eval e X.env) :: starEach [] X.env := by rfl) :
    DS T X W (.Expr (.Call (.Attribute a "append" apos) [e] [] pos) pos') (sApp i w) :=
  ⟨ps_mono (ps_expr (pe_bm PySem.F.plainAttrs_list PySem.F.slot_list_append PySem.F.type_list_append mt_append ha (pa_cons h.pe pa_nil hs) hbase hfew hline hs (by rfl)) hs0) fun D σ H q => by
    obtain ⟨G, ρ, r, fa, q⟩ := q
    unfold sApp at q
    split at q
    · rename_i ds hd
      obtain ⟨v, h1, b, vs, rfl, h3, h4, h5⟩ := r.slot i _ hd
      refine ⟨_, h1, .inl ⟨rfl, _, SqL.of h4⟩, ⟨G, ρ, r, h.mono _ _ _ _ _ (fun d hd' v H1 r1 a1 => ?_) (fun _ z => ex_out' z) q⟩⟩
      obtain ⟨v', h1', b', vs', e', h3', h4', h5'⟩ := r1.slot i _ hd
      rw [h1] at h1'
      cases h1'
      cases e'
      refine ⟨_, vs', v, rfl, rfl, h4', by rw [h5'.length]; exact hd'.1, ?_⟩
      exact hd'.2 σ _ G.O (r1.wr hd h1 h3' h4' (h5'.append (.cons a1 .nil)) fun q hq z => fa q hq i _ hd rfl (by rw [z]; exact h1)) (fun q hq j t hj ht e => by
        by_cases z : i = j
        · subst z; exact fa q hq i _ hd rfl e
        · rw [List.getElem?_set_ne z] at hj
          exact fa q hq j t hj ht e)
    · exact q.elim, fun ρ D D' l q => by
    unfold sApp at q ⊢
    split at q
    · exact h.mono _ _ _ _ _ (fun d hd => ⟨hd.1, l.nx _ hd.2⟩) l.ex q
    · exact q⟩
theorem FlApt.wr {fl : List (Addr × HO)} {i : Nat} {s s' : Sl} (fa : FlApt fl ρ σ) (hd : ρ[i]? = some s) (ho : s.owned = true) : FlApt fl (ρ.set i s') σ := fun q hq j t hj ht e => by
  by_cases z : i = j
  · subst z; exact fa q hq i _ hd ho e
  · rw [List.getElem?_set_ne z] at hj
    exact fa q hq j t hj ht e
def sSetI (i : Nat) (wk w : PW) : SW := fun ρ D => match ρ[i]? with
  | some (.ol ds) => w ρ (fun d => wk ρ (fun k => match k with
    | .int n => ∃ j, ixN ds.length n = some j ∧ D.nx (ρ.set i (.ol (ds.set j d)))
    | _ => False) D.ex) D.ex
  | _ => False
theorem ds_setI {i : Nat} {w wk : PW} (ho : PE X a (tVar i)) (hk : DE T X W b wk) (h : DE T X W e w) (hs : swapsWithSole [.Subscript a b p] e pos.line X.env = pure false := by rfl) (hw : swappedStores [.Subscript a b p] e X.env = pure none := by rfl)
    (h1 : (assignEach [.Subscript a b p] X.env).map (·.2) = [assign (.Subscript a b p) X.env] := by rfl)
    (ha : ∀ v, assign (.Subscript a b p) X.env v = (do
      let ov ← holding [v] (eval a X.env)
      let iv ← holding [v, ov] (eval b X.env)
      standAt p
      holding [v, ov, iv] (setItem ov iv v)
      release [v, ov, iv] []) := by intro _; rfl) : DS T X W (.Assign [.Subscript a b p] e pos) (sSetI i wk w) :=
  ⟨ps_mono (ps_asg h.pe (pg_sub ho hk.pe set_list ha) hs hw h1) fun D σ H q => by
    obtain ⟨G, ρ, r, fa, q⟩ := q
    unfold sSetI at q
    split at q
    · rename_i ds hd
      refine ⟨G, ρ, r, h.mono _ _ _ _ _ (fun d hd' v H1 r1 a1 => ?_) (fun _ z => ex_out' z) q⟩
      obtain ⟨u, h1, b, vs, rfl, h3, h4, h5⟩ := r1.slot i _ hd
      refine ⟨_, h1, lift_intro hk.mono r1 (hk.mono _ _ _ _ _ (fun k hk' u H2 r2 e2 a2 => ?_) (fun _ z => ex_out' z) hd')⟩
      cases a2 with
      | int n =>
        obtain ⟨j, hj, q⟩ := hk'
        obtain ⟨v', h1', b', vs', e', h3', h4', h5'⟩ := r2.slot i _ hd
        rw [h1] at h1'
        cases h1'
        cases e'
        refine ⟨_, vs', n, j, rfl, rfl, h4', by rw [h5'.length]; exact hj, ?_⟩
        exact q σ _ G.O (r2.wr hd h1 h3' h4' (h5'.set (a1.ext e2) j) fun q hq z => fa q hq i _ hd rfl (by rw [z]; exact h1)) (fa.wr hd rfl)
      | _ => exact hk'.elim
    · exact q.elim, fun ρ D D' l q => by
    unfold sSetI at q ⊢
    split at q
    · exact h.mono _ _ _ _ _ (fun d hd => hk.mono _ _ _ _ _ (fun k hk' => by
        cases k <;> first | exact hk' | exact (let ⟨j, h1, h2⟩ := hk'; ⟨j, h1, l.nx _ h2⟩)) l.ex hd) l.ex q
    · exact q⟩
theorem Rep.frz (r : Rep T K G ρ σ H) {i : Nat} {ds : List PyData} {a : Addr} {vs : List V} (hi : ρ[i]? = some (.ol ds)) (hv : σ[i]? = some (some (.ref a))) (h1 : H a = some (.lst vs)) (ha : Own T.dc G.O a) (hx : DaAll K (hide G.O H) vs ds) (hfl : ∀ q ∈ G.fl, q.1 ≠ a) :
    Rep T K ⟨G.Hb, G.O.filter (fun b => decide (b ≠ a)), G.fl⟩ (ρ.set i (.sh (.list ds))) σ H := by
  have mem : ∀ {b}, b ∈ G.O.filter (fun b => decide (b ≠ a)) ↔ b ∈ G.O ∧ b ≠ a := fun {b} => by rw [List.mem_filter, decide_eq_true_eq]
  have e : ExtN (hide G.O H) (hide (G.O.filter (fun b => decide (b ≠ a))) H) := ext_sub fun b hb => (mem.mp hb).1
  have hil : i < ρ.length := (List.getElem?_eq_some_iff.mp hi).1
  refine ⟨by rw [List.length_set]; exact r.len, fun j s hs => ?_, fun j k s t b hjk hj hk hs ht e1 e2 => ?_, r.tab, r.ext.trans e, fun b hb => r.dom b (mem.mp hb).1, fun q hq => ⟨mem.mpr ⟨(r.fly q hq).1, hfl q hq⟩, (r.fly q hq).2⟩,
    fun b hb => ⟨mem.mpr ⟨(r.dcs b hb).1, fun z => ha.2 (by rw [← z]; exact hb)⟩, (r.dcs b hb).2⟩⟩
  · by_cases z : i = j
    · subst z
      rw [List.getElem?_set_self hil] at hs
      cases hs
      exact ⟨_, hv, _, rfl, .lst (by rw [hide_out fun z => (mem.mp z).2 rfl]; exact h1) (hx.ext e)⟩
    · rw [List.getElem?_set_ne z] at hs
      obtain ⟨u, h2, h3⟩ := r.slot j s hs
      have ne : ∀ b, s.owned = true → u = some (.ref b) → b ≠ a := fun b hw eu z' => by
        rw [eu, z'] at h2
        exact r.sep i j _ s a z hi hs rfl hw hv h2
      refine ⟨u, h2, ?_⟩
      cases s with
      | un => trivial
      | sh d => obtain ⟨x, h4, h5⟩ := h3; exact ⟨x, h4, h5.ext e⟩
      | ol _ => obtain ⟨b, us, h4, h5, h6, h7⟩ := h3; exact ⟨b, us, h4, ⟨mem.mpr ⟨h5.1, ne b rfl h4⟩, h5.2⟩, h6, h7.ext e⟩
      | ok _ => obtain ⟨b, us, h4, h5, h6, h7, h8⟩ := h3; exact ⟨b, us, h4, ⟨mem.mpr ⟨h5.1, ne b rfl h4⟩, h5.2⟩, h6, h7, h8.ext e⟩
      | ot _ => obtain ⟨b, us, h4, h5, h6, h7, h8⟩ := h3; exact ⟨b, us, h4, ⟨mem.mpr ⟨h5.1, ne b rfl h4⟩, h5.2⟩, h6, h7, h8.ext e⟩
      | ln b _ => obtain ⟨h4, h5, hob, h6, h8⟩ := h3; exact ⟨h4, ⟨mem.mpr ⟨h5.1, ne b rfl h4⟩, h5.2⟩, hob, h6, h8.ext e⟩
      | on _ => obtain ⟨b, us, h4, h5, h6, h7, h8⟩ := h3; exact ⟨b, us, h4, ⟨mem.mpr ⟨h5.1, ne b rfl h4⟩, h5.2⟩, h6, h7, h8.ext e⟩
      | sn d => obtain ⟨x, h4, h5⟩ := h3; exact ⟨x, h4, h5.ext e⟩
      | sk d => obtain ⟨x, h4, h5⟩ := h3; exact ⟨x, h4, h5.ext e⟩
      | dice => exact h3
      | scr ns => obtain ⟨b, h4, h5⟩ := h3; exact ⟨b, h4, sqL_ext e h5⟩
  · have own : ∀ {l : Nat} {u : Sl}, (ρ.set i (.sh (.list ds)))[l]? = some u → u.owned = true → ρ[l]? = some u := fun {l u} hl hu => by
      by_cases z : i = l
      · subst z; rw [List.getElem?_set_self hil] at hl; cases hl; cases hu
      · rw [List.getElem?_set_ne z] at hl; exact hl
    exact r.sep j k s t b hjk (own hj hs) (own hk ht) hs ht e1 e2
def goFor (g : GD) (b : SW) (D : PEn) : List PyData → En → Prop
  | [], ρ => D.nx ρ
  | d :: ds, ρ => g d ρ fun ρ2 => b ρ2 { D with nx := goFor g b D ds, ct := goFor g b D ds, bk := D.nx }
def sFor (wi : PWs) (g : GD) (b : SW) : SW := fun ρ D => wi ρ (fun ds => goFor g b D ds ρ) D.ex
theorem goFor_mono {g : GD} {b : SW} (mg : ∀ d ρ Q Q', (∀ r, Q r → Q' r) → g d ρ Q → g d ρ Q') (mb : MonoS b) {D D' : PEn} (l : PEn.Le D D') : ∀ (ds : List PyData) (ρ : En), goFor g b D ds ρ → goFor g b D' ds ρ
  | [], ρ, h => l.nx _ h
  | d :: ds, ρ, h => mg _ _ _ _ (fun ρ2 h2 => mb ρ2 { D with nx := goFor g b D ds, ct := goFor g b D ds, bk := D.nx } _ ⟨goFor_mono mg mb l ds, l.rt, l.nx, goFor_mono mg mb l ds, l.ex, l.rp⟩ h2) h
theorem ends_base {Hb : Hp} {O : List Addr} {fl : List (Addr × HO)} (D : Ends) (e : ExtN G.Hb Hb) (hfl : G.fl = fl) : PEn.Le (endS T K W G D) (endS T K W ⟨Hb, O, fl⟩ D) := by
  subst hfl
  exact ⟨fun ρ h σ' H' O' r f => h σ' H' O' (r.unbase' _ e) f, fun d h v ρ' σ' H' O' r a => h v ρ' σ' H' O' (r.unbase' _ e) a, fun ρ h σ' H' O' r f => h σ' H' O' (r.unbase' _ e) f, fun ρ h σ' H' O' r f => h σ' H' O' (r.unbase' _ e) f,
    fun x h ρ' σ' H' O' cls dd r q => h ρ' σ' H' O' cls dd (r.unbase' _ e) q, fun d h v ρ' σ' H' O' r p a => h v ρ' σ' H' O' (r.unbase' _ e) p a⟩
theorem ds_for {tg iter : Expr} {body : List Stmt} {wi : PWs} {g : GD} {bw : SW} {sl : List Nat} (hp : PassesOwn (model X.prog X.w) X.A X.env X.xe) (hc : X.calm = true) (hi : DI T X W tg iter wi) (hg : DG T X sl tg g) (hb : DSs T X W body bw)
    (hs : ∀ x, foldedSetIterable iter X.env x = pure x := by intro _; rfl) : DS T X W (.For tg iter body [] pos) (sFor wi g bw) :=
  ⟨ps_mono (ps_for hp hc hi.pi hg.pg hb.ps hs) fun D σ H q => by
    obtain ⟨G, ρ, r, fa, q⟩ := q
    refine ⟨G, ρ, r, hi.mono _ _ _ _ _ (fun ds hds J H1 r1 wk => ?_) (fun _ z => ex_out' z) q⟩
    refine ⟨fun i m σ' H' => m = ds.length - i ∧ ∃ ρ' O', Rep T X.K ⟨hide G.O H1, O', G.fl⟩ ρ' σ' H' ∧ FlApt G.fl ρ' σ' ∧ goFor g bw (endS T X.K W G D) (ds.drop i) ρ', ⟨_, rfl, ρ, G.O, r1.rebase, fa, hds⟩, fun i m σ' H' hW => ?_⟩
    obtain ⟨rfl, ρ', O', r2, fa2, hgo⟩ := hW
    have dm : ∀ a ∈ O', H' a ≠ none := fun a ha z => by obtain ⟨o, e, _⟩ := r2.dom a ha; rw [z] at e; cases e
    obtain ⟨wk1, wk2⟩ := wk O' H' r2.ext dm
    cases hd : ds.drop i with
    | nil =>
      rw [hd] at hgo
      exact .inl ⟨wk2 i (List.drop_eq_nil_iff.mp hd), hgo σ' H' O' (r2.unbase' _ r1.ext) fa2⟩
    | cons d rest =>
      have hi' : i < ds.length := by
        by_cases z : i < ds.length
        · exact z
        · rw [List.drop_eq_nil_of_le (by omega)] at hd; cases hd
      have hdd := List.drop_eq_getElem_cons hi'
      rw [hd] at hdd
      have hdi : ds[i]? = some d := by rw [List.getElem?_eq_getElem hi', ← (List.cons.inj hdd).1]
      have hrest : ds.drop (i + 1) = rest := (List.cons.inj hdd).2.symm
      obtain ⟨jgo, yld⟩ := wk1 i d hdi
      rw [hd] at hgo
      refine .inr ⟨jgo, fun σ'' H'' => ∃ ρ'' O'', Rep T X.K ⟨hide G.O H1, O'', G.fl⟩ ρ'' σ'' H'' ∧ FlApt G.fl ρ'' σ'' ∧ goFor g bw (endS T X.K W G D) rest ρ'', fun σ'' H'' h => ⟨ds.length - (i + 1), by omega, rfl, by rw [hrest]; exact h⟩, fun x H3 hy => ?_⟩
      obtain ⟨al, hx⟩ := yld x H3 hy
      have r3 := r2.alloc al
      refine ⟨_, ρ', d, r3, hx, hg.mono _ _ _ _ (fun ρ2 h2 σ2 r4 hw => ?_) (hg.keep _ _ _ hgo)⟩
      refine ⟨_, ρ2, r4, fa2.asg h2.2.1 h2.2.2 hw, hb.mono _ _ _ ?_ h2.1⟩
      have eb := ends_base (T := T) (K := X.K) (W := W) (O := O') D r1.ext (G := G) rfl
      exact ⟨fun ρ3 h3 σ3 H3 O3 r5 f5 => ⟨ρ3, O3, r5, f5, h3⟩, eb.rt, eb.nx, fun ρ3 h3 σ3 H3 O3 r5 f5 => ⟨ρ3, O3, r5, f5, h3⟩, eb.ex, eb.rp⟩,
   fun ρ D D' l q => hi.mono _ _ _ _ _ (fun ds h => goFor_mono hg.mono hb.mono l ds ρ h) l.ex q⟩
def goWh (c : PWB) (b : SW) (D : PEn) : Nat → En → Prop
  | 0, _ => False
  | n + 1, ρ => c ρ (fun k => if k = true then b ρ { D with nx := goWh c b D n, ct := goWh c b D n, bk := D.nx } else D.nx ρ) D.ex
def sWh (c : PWB) (b : SW) : SW := fun ρ D => ∃ n, goWh c b D n ρ
theorem goWh_mono {c : PWB} {b : SW} (mc : Mono c) (mb : MonoS b) {D D' : PEn} (l : PEn.Le D D') : ∀ (n : Nat) (ρ : En), goWh c b D n ρ → goWh c b D' n ρ
  | 0, _, h => h
  | n + 1, ρ, h => mc _ _ _ _ _ (fun k hk => by
      by_cases z : k = true
      · rw [if_pos z] at hk ⊢
        exact mb _ { D with nx := goWh c b D n, ct := goWh c b D n, bk := D.nx } _ ⟨goWh_mono mc mb l n, l.rt, l.nx, goWh_mono mc mb l n, l.ex, l.rp⟩ hk
      · rw [if_neg z] at hk ⊢
        exact l.nx _ hk) l.ex h
theorem ds_while {body : List Stmt} {wc : PWB} {bw : SW} (hp : PassesOwn (model X.prog X.w) X.A X.env X.xe) (hc : DT T X W c wc) (hb : DSs T X W body bw) : DS T X W (.While c body [] pos) (sWh wc bw) :=
  ⟨ps_mono (ps_while hp hc.pt hb.ps) fun D σ H q => by
    obtain ⟨G, ρ, r, fa, n, q⟩ := q
    refine ⟨fun m σ' H' => ∃ ρ' O', Rep T X.K ⟨G.Hb, O', G.fl⟩ ρ' σ' H' ∧ FlApt G.fl ρ' σ' ∧ goWh wc bw (endS T X.K W G D) m ρ', ⟨n, ρ, G.O, r, fa, q⟩, fun m σ' H' hW => ?_⟩
    obtain ⟨ρ', O', r2, fa2, hgo⟩ := hW
    cases m with
    | zero => exact hgo.elim
    | succ m =>
      refine ⟨_, ρ', r2, hc.mono _ _ _ _ _ (fun k hk H1 r3 => ?_) (fun _ z => ex_out z) hgo⟩
      by_cases z : k = true
      · rw [if_pos z] at hk ⊢
        refine ⟨fun σ'' H'' => ∃ ρ'' O'', Rep T X.K ⟨G.Hb, O'', G.fl⟩ ρ'' σ'' H'' ∧ FlApt G.fl ρ'' σ'' ∧ goWh wc bw (endS T X.K W G D) m ρ'', fun σ'' H'' h => ⟨m, Nat.lt_succ_self m, h⟩, ?_⟩
        refine ⟨_, ρ', r3, fa2, hb.mono _ _ _ ?_ hk⟩
        exact ⟨fun ρ3 h3 σ3 H3 O3 r5 f5 => ⟨ρ3, O3, r5, f5, h3⟩, fun _ h => h, fun _ h => h, fun ρ3 h3 σ3 H3 O3 r5 f5 => ⟨ρ3, O3, r5, f5, h3⟩, fun _ h => h, fun _ h => h⟩
      · rw [if_neg z] at hk ⊢
        exact hk σ' H1 O' r3 fa2,
   fun ρ D D' l ⟨n, q⟩ => ⟨n, goWh_mono hc.mono hb.mono l n ρ q⟩⟩
end
end PL
set_option Elab.async false
set_option linter.all false
set_option maxRecDepth 100000
set_option maxHeartbeats 2000000
namespace PL
open PySem PySem.Spec PyProof.Rows L2
open LamX (ExtN Tabs TabS)
structure FunC (K : PySem.W.Frag) (x : Str) (st : Stmt) (f c : Addr) (fd : FuncData) : Prop where
  ex : ∃ (oc : Value) (od : Option Addr) (kV doc pm : Value) (an : Option Addr) (ct : Value) (osl : Array (Option Value)),
    fd = PySem.W.fnOf x x (defArgs st) (defBody st) (defScope st) .none kV doc pm an (.ref c) ct ∧ K.lookup f = some ⟨oc, od, .func fd, osl⟩ ∧ PySem.W.codeIn K (.ref c) x = true
  kp : PySem.W.keepIn K (.ref f) = true
section
variable {P : Program} {w : World} {K : PySem.W.Frag} {mg : Str → Option Value} {base : Heap} {x : Str} {st : Stmt} {f c : Addr} {fd : FuncData} {N ps : List Str} {k : Nat} {sp : Sp}
theorem FunC.okX (F : FunC K x st f c fd) (S : FnScope N ps (defScope st)) (len : ∀ vs H Q E, sp vs H Q E → vs.length = ps.length)
    (hbody : ∀ (A : Around) (outer : List Env) (s : Shared) (H : Hp) (vs : List V) (Q : VK) (E : XK), Room k (A.deeper (envOfC x (defScope st) s.heap.objs.size f (.ref c))) → sp vs H Q E →
      ∃ t, PSs (cxOf (L2.CX P w) P w K mg base N x (defScope st) f (.ref c) A outer s H E) (defBody st) t ∧ t { nx := fun _ H' => Q .non H', rt := Q } (start N vs) H) : FnOk P w K mg base (L2.CX P w) (k + 1) f fd ps sp := by
  obtain ⟨oc, od, kV, doc, pm, an, ct, osl, rfl, lk, hcd⟩ := F.ex
  exact fn_of lk hcd S len fun A outer s H vs Q E hr hsp => hbody A outer s H vs Q E hr hsp
theorem FunC.binds (F : FunC K x st f c fd)
    (h : ∀ (kV doc pm : Value) (an : Option Addr) (cdv ct : Value) (us : List Value), us.length = ps.length → bindArgs (PySem.W.fnOf x x (defArgs st) (defBody st) (defScope st) .none kV doc pm an cdv ct) ⟨us, []⟩ = pure (ps.zip us)) : Binds K fd ps [] := by
  obtain ⟨oc, od, kV, doc, pm, an, ct, osl, rfl, lk, hcd⟩ := F.ex
  exact .all (h kV doc pm an (.ref c) ct)
end
def flOf (D0 O : List Addr) (H : Hp) : List (Addr × HO) := O.filterMap fun a => if a ∈ D0 then none else (H a).map fun o => (a, o)
theorem mem_flOf {D0 O : List Addr} {H : Hp} {a : Addr} {o : HO} : (a, o) ∈ flOf D0 O H ↔ a ∈ O ∧ a ∉ D0 ∧ H a = some o := by
  unfold flOf
  rw [List.mem_filterMap]
  constructor
  · rintro ⟨b, hb, e⟩
    by_cases z : b ∈ D0
    · rw [if_pos z] at e; cases e
    · rw [if_neg z] at e
      cases h : H b with
      | none => rw [h] at e; cases e
      | some o' => rw [h] at e; cases e; exact ⟨hb, z, h⟩
  · rintro ⟨h1, h2, h3⟩
    exact ⟨a, h1, by rw [if_neg h2, h3]; rfl⟩
structure Back (T : Tb) (O : List Addr) (H H' : Hp) : Prop where
  ext : ExtN (hide O H) (hide O H')
  keep : ∀ a ∈ O, a ∉ T.dc → H' a = H a
  dc : ∀ a ∈ T.dc, ∃ x y z, H' a = some (.lst [.int x, .int y, .int z])
  tab : TOk T H'
/-- a contract: of the arguments' slots -/
def spD (T : Tb) (K : PySem.W.Frag) (n : Nat) (c : PW) : Sp := fun vs H Q E => ∃ (O : List Addr) (ρ : En), ρ.length = n ∧ Rep T K ⟨hide O H, O, flOf T.dc O H⟩ ρ (vs.map some) H ∧ (∀ s ∈ ρ, s.owned = false) ∧
  c ρ (fun d => ∀ v H', Back T O H H' → Da K (hide O H') v d → Q v H') (fun x => ∀ H' cls dd, Back T O H H' → ExR K x cls dd (hide O H') → E cls dd H')
def cOf (N : List Str) (w : SW) : PW := fun ρ Q E => w (ρ ++ List.replicate (N.length - ρ.length) .un) { nx := fun _ => Q .none, rt := Q, ex := E }
theorem mono_cOf {N : List Str} {w : SW} (m : MonoS w) : Mono (cOf N w) := fun ρ Q Q' E E' hq he h => m _ { nx := fun _ => Q .none, rt := Q, ex := E } _ ⟨fun _ => hq _, hq, fun _ z => z, fun _ z => z, he, fun _ z => z⟩ h
section
variable {T : Tb} {X : Cx} {W : WX} {pos p pos' apos : Pos} {e a b : Expr} {es : List Expr} {st : Stmt} {rest : List Stmt} {K : PySem.W.Frag} {G G2 : Gh} {ρ ρ2 : En} {σ σ2 : L2.St} {H H' : Hp} {D : Ends}
theorem Rep.back {O' : List Addr} {O : List Addr} (r : Rep T K ⟨hide O H, O', flOf T.dc O H⟩ ρ σ H') (dom : ∀ a ∈ O, ∃ o, H a = some o ∧ ∀ ps, o ≠ .tbl ps) : Back T O H H' ∧ ExtN (hide O' H') (hide O H') := by
  have sub : ∀ b ∈ O, b ∈ O' := fun b hb => by
    by_cases z : b ∈ T.dc
    · exact (r.dcs b z).1
    · obtain ⟨o, ho, _⟩ := dom b hb
      exact (r.fly (b, o) (mem_flOf.mpr ⟨hb, z, ho⟩)).1
  have e := ext_sub (H := H') sub
  refine ⟨⟨r.ext.trans e, fun a ha nd => ?_, fun a ha => (r.dcs a ha).2.1, r.tab⟩, e⟩
  obtain ⟨o, ho, _⟩ := dom a ha
  rw [ho]
  exact (r.fly (a, o) (mem_flOf.mpr ⟨ha, nd, ho⟩)).2
theorem exR_ext {x : Exn} {cls : Value} {dd : Option Addr} (e : ExtN H H') (h : ExR K x cls dd H) : ExR K x cls dd H' := by
  obtain ⟨h1, h2⟩ := h
  refine ⟨h1, ?_⟩
  cases hx : x.fld with
  | none => rw [hx] at h2; exact h2
  | some q =>
    rw [hx] at h2
    obtain ⟨a, v, ha, hb, hc⟩ := h2
    exact ⟨a, v, ha, e _ _ hb (fun ps z => by cases z), hc.ext e⟩
theorem start_eq {N : List Str} {vs : List V} {ρ : En} (h : ρ.length = vs.length) : L2.start N vs = vs.map some ++ List.replicate (N.length - ρ.length) none := by
  unfold L2.start
  rw [h]
theorem Rep.more (r : Rep T K G ρ σ H) (n : Nat) : Rep T K G (ρ ++ List.replicate n .un) (σ ++ List.replicate n none) H where
  len := by rw [List.length_append, List.length_append, r.len, List.length_replicate, List.length_replicate]
  slot i s hs := by
    by_cases z : i < ρ.length
    · rw [List.getElem?_append_left z] at hs
      rw [List.getElem?_append_left (by rw [← r.len]; exact z)]
      exact r.slot i s hs
    · rw [List.getElem?_append_right (by omega)] at hs
      have hl : i - ρ.length < n := by
        have := (List.getElem?_eq_some_iff.mp hs).1
        rw [List.length_replicate] at this
        exact this
      rw [List.getElem?_replicate, if_pos hl] at hs
      cases hs
      rw [List.getElem?_append_right (by rw [← r.len]; omega), ← r.len, List.getElem?_replicate, if_pos hl]
      exact ⟨none, rfl, trivial⟩
  sep i j s t a hij hi hj hs ht e1 e2 := by
    have low : ∀ {l : Nat} {u : Sl}, (ρ ++ List.replicate n .un)[l]? = some u → u.owned = true → l < ρ.length := fun {l u} hl hu => by
      by_cases z : l < ρ.length
      · exact z
      · rw [List.getElem?_append_right (by omega), List.getElem?_replicate] at hl
        split at hl
        · cases hl; cases hu
        · cases hl
    have l1 := low hi hs
    have l2 := low hj ht
    rw [List.getElem?_append_left l1] at hi
    rw [List.getElem?_append_left l2] at hj
    rw [List.getElem?_append_left (by rw [← r.len]; exact l1)] at e1
    rw [List.getElem?_append_left (by rw [← r.len]; exact l2)] at e2
    exact r.sep i j s t a hij hi hj hs ht e1 e2
  tab := r.tab
  ext := r.ext
  dom := r.dom
  fly := r.fly
  dcs := r.dcs
/-- THE RULE for a def -/
theorem fn_okD {P : Program} {w : World} {mg : Str → Option Value} {base : Heap} {x : Str} {st : Stmt} {f c : Addr} {fd : FuncData} {N ps : List Str} {k : Nat} {u : SW} (F : FunC K x st f c fd) (S : FnScope N ps (defScope st))
    (hb : ∀ (A : Around) (outer : List Env) (s : Shared) (H : Hp) (E : XK), Room k (A.deeper (envOfC x (defScope st) s.heap.objs.size f (.ref c))) →
      DSs T (cxOf (L2.CX P w) P w K mg base N x (defScope st) f (.ref c) A outer s H E) (fun cls d _ H => E cls d H) (defBody st) u) : FnOk P w K mg base (L2.CX P w) (k + 1) f fd ps (spD T K ps.length (cOf N u)) := by
  refine F.okX S (fun vs H Q E h => ?_) (fun A outer s H vs Q E hr h => ⟨_, (hb A outer s H E hr).ps, ?_⟩)
  · obtain ⟨O, ρ, h1, h2, _⟩ := h
    have := h2.len
    rw [List.length_map] at this
    omega
  · obtain ⟨O, ρ, h1, r, no, q⟩ := h
    have hl : ρ.length = vs.length := by have := r.len; rw [List.length_map] at this; exact this
    refine ⟨⟨hide O H, O, flOf T.dc O H⟩, ρ ++ List.replicate (N.length - ρ.length) .un, ?_, fun q hq j t hj ht e => ?_, ?_⟩
    · rw [start_eq hl]
      exact r.more _
    · exfalso
      by_cases z : j < ρ.length
      · rw [List.getElem?_append_left z] at hj
        rw [no t (List.mem_of_getElem? hj)] at ht
        cases ht
      · rw [List.getElem?_append_right (by omega), List.getElem?_replicate] at hj
        split at hj
        · cases hj; cases ht
        · cases hj
    · refine (hb A outer s H E hr).mono _ { nx := fun _ => ∀ v H', Back T O H H' → Da K (hide O H') v .none → Q v H', rt := fun d => ∀ v H', Back T O H H' → Da K (hide O H') v d → Q v H', ex := fun x => ∀ H' cls dd, Back T O H H' → ExR K x cls dd (hide O H') → E cls dd H' } _ ⟨fun ρ' h σ' H' O' r' _ => ?_, fun d h v ρ' σ' H' O' r' a => ?_, fun _ z => z.elim, fun _ z => z.elim, fun x h ρ' σ' H' O' cls dd r' q => ?_, fun _ z => z.elim⟩ q
      · exact h .non H' (r'.back r.dom).1 .non
      · obtain ⟨b1, b2⟩ := r'.back r.dom
        exact h v H' b1 (a.ext b2)
      · obtain ⟨b1, b2⟩ := r'.back r.dom
        exact h H' cls dd b1 (exR_ext b2 q)
def ArgOk (T : Tb) (K : PySem.W.Frag) (H : Hp) : V → Sl → Prop
  | v, .sh d => Da K H v d
  | v, .dice => ∃ a, v = .ref a ∧ a ∈ T.dc
  | v, .scr ns => ∃ a, v = .ref a ∧ SqL K H a (ns.map V.int)
  | _, _ => False
inductive ArgsOk (T : Tb) (K : PySem.W.Frag) (H : Hp) : List V → List Sl → Prop
  | nil : ArgsOk T K H [] []
  | cons {v : V} {vs : List V} {s : Sl} {ss : List Sl} : ArgOk T K H v s → ArgsOk T K H vs ss → ArgsOk T K H (v :: vs) (s :: ss)
abbrev PWp := En → (List Sl → Prop) → (Exn → Prop) → Prop
theorem ArgOk.ext {v : V} {s : Sl} (e : ExtN H H') (h : ArgOk T K H v s) : ArgOk T K H' v s := by
  cases s with
  | sh d => exact Da.ext e h
  | dice => exact h
  | scr ns => obtain ⟨a, h1, h2⟩ := h; exact ⟨a, h1, sqL_ext e h2⟩
  | _ => exact h.elim
theorem ArgOk.own {v : V} {s : Sl} (h : ArgOk T K H v s) : s.owned = false := by
  cases s <;> first | rfl | exact False.elim h
theorem ArgsOk.ext {vs : List V} {ss : List Sl} (e : ExtN H H') (h : ArgsOk T K H vs ss) : ArgsOk T K H' vs ss := by
  induction h with
  | nil => exact .nil
  | cons h _ ih => exact .cons (h.ext e) ih
def liftP (T : Tb) (K : PySem.W.Frag) (W : WX) (w : PWp) : TA := fun σ H Q => ∃ G ρ, Rep T K G ρ σ H ∧ w ρ (fun ss => ∀ vs H', Rep T K G ρ σ H' → ArgsOk T K (hide G.O H') vs ss → Q vs H') (exOut T K W G ρ σ)
structure DP (T : Tb) (X : Cx) (W : WX) (es : List Expr) (w : PWp) : Prop where
  pa : PA X es (liftP T X.K W w)
  mono : Mono w
theorem pa_mono {X : Cx} {e : List Expr} {t t' : TA} (h : PA X e t) (i : ∀ σ H Q, t' σ H Q → t σ H Q) : PA X e t' := ⟨fun pos pins s σ H Q I q => h.run pos pins s σ H Q I (i _ _ _ q)⟩
def wpNil : PWp := fun _ Q _ => Q []
def wpSh (w : PW) (ws : PWp) : PWp := fun ρ Q E => w ρ (fun d => ws ρ (fun ss => Q (.sh d :: ss)) E) E
def wpDc (i : Nat) (ws : PWp) : PWp := fun ρ Q E => ρ[i]? = some .dice ∧ ws ρ (fun ss => Q (.dice :: ss)) E
theorem dp_nil : DP T X W [] wpNil := ⟨pa_mono pa_nil fun σ H Q q => by
  obtain ⟨G, ρ, r, q⟩ := q
  exact q [] H r .nil, fun _ _ _ _ _ hq _ h => hq _ h⟩
theorem dp_sh {w : PW} {ws : PWp} (h : DE T X W e w) (hr : DP T X W es ws) (hs : starEach (e :: es) X.env = (false, eval e X.env) :: starEach es X.env := by rfl) : DP T X W (e :: es) (wpSh w ws) :=
  ⟨pa_mono (pa_cons h.pe hr.pa hs) fun σ H Q q => by
    obtain ⟨G, ρ, r, q⟩ := q
    refine lift_intro h.mono r (h.mono _ _ _ _ _ (fun d hd v H1 r1 e1 a1 => ?_) (fun _ z => z) q)
    refine ⟨⟨hide G.O H1, G.O, G.fl⟩, ρ, r1.rebase, hr.mono _ _ _ _ _ (fun ss hss vs H2 r2 a2 => ?_) (fun x hx H' cls dd r' q => hx H' cls dd (r'.unbase r1.ext) q) hd⟩
    exact hss _ _ (r2.unbase r1.ext) (.cons (Da.ext r2.ext a1) a2),
   fun ρ Q Q' E E' hq he q => h.mono _ _ _ _ _ (fun d hd => hr.mono _ _ _ _ _ (fun ss hss => hq _ hss) he hd) he q⟩
theorem dp_dc {i : Nat} {ws : PWp} (h : PE X e (tVar i)) (hr : DP T X W es ws) (hs : starEach (e :: es) X.env = (false, eval e X.env) :: starEach es X.env := by rfl) : DP T X W (e :: es) (wpDc i ws) :=
  ⟨pa_mono (pa_cons h hr.pa hs) fun σ H Q q => by
    obtain ⟨G, ρ, r, hd, q⟩ := q
    obtain ⟨v, h1, a, rfl, ha⟩ := r.slot i _ hd
    refine ⟨_, h1, G, ρ, r, hr.mono _ _ _ _ _ (fun ss hss vs H2 r2 a2 => ?_) (fun x z => z) q⟩
    exact hss _ _ r2 (.cons ⟨a, rfl, ha⟩ a2),
   fun ρ Q Q' E E' hq he q => ⟨q.1, hr.mono _ _ _ _ _ (fun ss hss => hq _ hss) he q.2⟩⟩
def wpSc (i : Nat) (ws : PWp) : PWp := fun ρ Q E => ∃ ns, ρ[i]? = some (.scr ns) ∧ ws ρ (fun ss => Q (.scr ns :: ss)) E
theorem dp_sc {i : Nat} {ws : PWp} (h : PE X e (tVar i)) (hr : DP T X W es ws) (hs : starEach (e :: es) X.env = (false, eval e X.env) :: starEach es X.env := by rfl) : DP T X W (e :: es) (wpSc i ws) :=
  ⟨pa_mono (pa_cons h hr.pa hs) fun σ H Q q => by
    obtain ⟨G, ρ, r, ns, hd, q⟩ := q
    obtain ⟨v, h1, a, rfl, ha⟩ := r.slot i _ hd
    refine ⟨_, h1, ⟨hide G.O H, G.O, G.fl⟩, ρ, r.rebase, hr.mono _ _ _ _ _ (fun ss hss vs H2 r2 a2 => ?_) (fun x hx H' cls dd r' q => hx H' cls dd (r'.unbase r.ext) q) q⟩
    exact hss _ _ (r2.unbase r.ext) (.cons ⟨a, rfl, sqL_ext r2.ext ha⟩ a2),
   fun ρ Q Q' E E' hq he ⟨ns, q1, q2⟩ => ⟨ns, q1, hr.mono _ _ _ _ _ (fun ss hss => hq _ hss) he q2⟩⟩
/-- script[:e] -/
def wScr (i : Nat) (wh : PWo) : PW := fun ρ Q E => ∃ ns, ρ[i]? = some (.scr ns) ∧ wh ρ (fun h => Q (.list ((cutD (ns.map .int) none h)))) E
theorem df_scr {i : Nat} {hi : Option Expr} {p2 : Pos} {wh : PWo} (h : PE X e (tVar i)) (hh : DO T X W hi wh) : DF T X W (.Subscript e (.Slice none hi none p2) pos) (wScr i wh) := by
  obtain ⟨⟨th, ph, qh⟩, mh⟩ := hh
  refine ⟨pe_mono (pe_slice sl_list h po_none ph) fun σ H Q q => ?_, fun ρ Q Q' E E' hq he ⟨ns, q1, q2⟩ => ⟨ns, q1, mh _ _ _ _ _ (fun _ z => hq _ z) he q2⟩⟩
  obtain ⟨G, ρ, r, ns, hd, q⟩ := q
  obtain ⟨v, h1, a, rfl, ha⟩ := r.slot i _ hd
  refine ⟨_, h1, qh ⟨hide G.O H, G.O, G.fl⟩ ρ σ H _ r.rebase (mh _ _ _ _ _ (fun o ho H' r' => ?_) (fun x hx H' cls dd r' q => hx H' cls dd (r'.unbase r.ext) q) q)⟩
  have ha' : SqL X.K H' a (ns.map V.int) := by
    rcases sqL_ext r'.ext ha with z | z
    · exact .inl (z.elim (fun z => .inl (hide_some z).2) fun ⟨ob, z⟩ => .inr ⟨ob, (hide_some z).2⟩)
    · exact .inr z
  refine ⟨a, _, rfl, ha', fun p hp => ?_⟩
  obtain ⟨r2, na, ap, h1, h2⟩ := (r'.unbase r.ext).newL hp (cut_da (daAll_ints ns) none o)
  exact ho p _ _ _ rfl r2 na ap h1 h2
def wCall (n : Nat) (c : PW) (ws : PWp) : PW := fun ρ Q E => ws ρ (fun ss => ss.length = n ∧ c ss Q E) E
theorem args_rep {vs : List V} {ss : List Sl} (r : Rep T K G ρ σ H) (h : ArgsOk T K (hide G.O H) vs ss) : Rep T K ⟨hide G.O H, G.O, flOf T.dc G.O H⟩ ss (vs.map some) H ∧ ∀ s ∈ ss, s.owned = false := by
  have no : ∀ s ∈ ss, s.owned = false := by
    induction h with
    | nil => exact fun s hs => by cases hs
    | cons h _ ih =>
      intro s hs
      rcases List.mem_cons.mp hs with z | z
      · rw [z]
        exact h.own
      · exact ih s z
  have len : ss.length = vs.length := by
    clear no
    induction h with
    | nil => rfl
    | cons _ _ ih => rw [List.length_cons, List.length_cons, ih]
  have at_ : ∀ (i : Nat) (s : Sl), ss[i]? = some s → ∃ v, vs[i]? = some v ∧ ArgOk T K (hide G.O H) v s := by
    clear no len
    induction h with
    | nil => intro i s hs; simp at hs
    | cons h _ ih =>
      intro i s hs
      cases i with
      | zero => simp at hs; subst hs; exact ⟨_, rfl, h⟩
      | succ i => simpa using ih i s (by simpa using hs)
  refine ⟨⟨by rw [List.length_map]; exact len, fun i s hs => ?_, fun i j s t a hij hi hj hs ht e1 e2 => ?_, r.tab, ExtN.refl _, r.dom, fun p hp => ?_, fun a ha => ⟨(r.dcs a ha).1, (r.dcs a ha).2.1, fun q hq z => ?_⟩⟩, no⟩
  · obtain ⟨v, hv, ho⟩ := at_ i s hs
    refine ⟨some v, by rw [List.getElem?_map, hv]; rfl, ?_⟩
    cases s with
    | sh d => exact ⟨v, rfl, ho⟩
    | dice => obtain ⟨a, e, ha⟩ := ho; exact ⟨a, by rw [e], ha⟩
    | scr ns => obtain ⟨a, e, ha⟩ := ho; exact ⟨a, by rw [e], ha⟩
    | _ => exact ho.elim
  · rw [no s (List.mem_of_getElem? hi)] at hs
    cases hs
  · obtain ⟨a, o⟩ := p
    obtain ⟨h1, h2, h3⟩ := mem_flOf.mp hp
    exact ⟨h1, h3⟩
  · obtain ⟨b, o⟩ := q
    obtain ⟨h1, h2, h3⟩ := mem_flOf.mp hq
    exact h2 (by rw [show b = a from z]; exact ha)
theorem Rep.forth (r : Rep T K G ρ σ H) (b : Back T G.O H H') : Rep T K G ρ σ H' := r.stepD b.ext b.keep b.dc b.tab
theorem de_call {k n : Nat} {f : Addr} {fd : FuncData} {ps : List Str} {c : PW} {x : Str} {ws : PWp} (F : FnOk X.prog X.w X.K X.mg X.base (L2.CX X.prog X.w) k f fd ps (spD T X.K n c)) (mc : Mono c) (hr : Room k X.A) (hg : Gl X x) (hm : X.mg x = some (.ref f)) (hk : PySem.W.keepIn X.K (.ref f) = true) (hb : Binds X.K fd ps []) (tk : Takes X W)
    (h : DP T X W (e :: es) ws) (hdb : (x == ("__debug__" : Str)) = false := by decide) (he : starEach (e :: es) X.env = (false, eval e X.env) :: starEach es X.env := by rfl) (hpl : (backTo pos (starEach es X.env)).any (·.1) = false := by rfl) :
    DE T X W (.Call (.Name x p) (e :: es) [] pos) (wCall n c ws) :=
  ⟨pe_mono (pe_callS (E := WE W) F hr hg hm hk hb (fun σ => passAt tk σ) h.pa hdb he hpl) fun σ H Q q => by
    obtain ⟨G, ρ, r, q⟩ := q
    refine ⟨G, ρ, r, h.mono _ _ _ _ _ (fun ss hss vs H1 r1 a1 => ?_) (fun _ z => z) q⟩
    obtain ⟨r2, no⟩ := args_rep r1 a1
    exact ⟨G.O, ss, hss.1, r2, no, mc _ _ _ _ _ (fun d hd v H' bk a => hd v H' (r1.forth bk) a) (fun x hx H' cls dd bk q => hx H' cls dd (r1.forth bk) q) hss.2⟩,
   fun ρ Q Q' E E' hq he q => h.mono _ _ _ _ _ (fun ss hss => ⟨hss.1, mc _ _ _ _ _ hq he hss.2⟩) he q⟩
end
end PL
set_option Elab.async false
set_option linter.all false
set_option maxRecDepth 100000
set_option maxHeartbeats 2000000
set_option Elab.async false
set_option linter.all false
set_option maxRecDepth 100000
set_option maxHeartbeats 2000000
namespace PL
open PySem PySem.Spec PyProof.Rows L2
open LamX (ExtN Tabs TabS)
section
variable {T : Tb} {X : Cx} {W : WX} {pos p p2 pos2 pos' apos : Pos} {e a b : Expr} {es : List Expr} {st : Stmt} {rest : List Stmt} {K : PySem.W.Frag} {G G2 : Gh} {ρ ρ2 : En} {σ σ2 : L2.St} {H H' : Hp} {D : Ends}
theorem rep_zero {α : Type} (c : Array α) (h : c.size = 0) : ∀ (n : Nat) (acc : Array α), (List.replicate n c).foldl (· ++ ·) acc = acc
  | 0, acc => rfl
  | n + 1, acc => by
    have e : c = #[] := Array.eq_empty_of_size_eq_zero h
    rw [List.replicate_succ, List.foldl_cons, rep_zero c h n, e, Array.append_empty]
theorem rep_size {α : Type} (c : Array α) : ∀ (n : Nat) (acc : Array α), ((List.replicate n c).foldl (· ++ ·) acc).size = acc.size + n * c.size
  | 0, acc => by simp
  | n + 1, acc => by
    rw [List.replicate_succ, List.foldl_cons, rep_size c n, Array.size_append, Nat.add_mul]
    omega
theorem mul_strR {M : Program} {w : World} {A : Around} {E : Value → Shared → Prop} {s : Shared} {x : Str} {n : Int} {t u : Tok} {Q : Value → Shared → Prop} (h : -(2 ^ 63) ≤ n ∧ x.length * n.toNat ≤ sizeLine ∧ n < 2 ^ 20)
    (q : (∀ t', Q (.str (repS x n.toNat) t') { s with toks := s.toks + 1 }) ∧ ∀ t', Q (.str (repS x n.toNat) t') s) : wpAny (model M w) A (binaryOp .Mult (.str x t) (.int n u)) Q E s := by
  obtain ⟨h1, h2, h3⟩ := h
  have hz : (repS x n.toNat).length = n.toNat * x.length := by
    show ((List.replicate n.toNat x.cps).foldl (· ++ ·) #[]).size = _
    rw [rep_size]
    exact Nat.zero_add _
  refine PySem.P.mul_str ?_ (fun hn _ => ?_) (fun hn _ => ?_) ?_
  · rw [Bool.or_eq_false_iff]
    exact ⟨decide_eq_false (by omega), decide_eq_false (by omega)⟩
  · have hx : x.length ≤ sizeLine := by
      have : 1 ≤ n.toNat := by omega
      calc x.length = x.length * 1 := (Nat.mul_one _).symm
        _ ≤ x.length * n.toNat := Nat.mul_le_mul_left _ this
        _ ≤ _ := h2
    rw [sizeLine_eq] at hx
    have : (16777216 : Int) ≤ (2 ^ 63 - 1) / n := by
      rw [Int.le_ediv_iff_mul_le (by omega)]
      omega
    omega
  · show decide (_ > sizeLine) = false
    exact decide_eq_false (by omega)
  · by_cases c : n < 1
    · rw [if_pos c]
      have e : n.toNat = 0 := by omega
      have e2 : repS x n.toNat = Str.empty := by rw [e]; rfl
      rw [e2] at q
      exact ⟨by decide, q.1 _⟩
    · rw [if_neg c]
      by_cases c2 : (n == 1 || x.length == 0) = true
      · rw [if_pos c2]
        have e2 : repS x n.toNat = x := by
          rcases Bool.or_eq_true_iff.mp c2 with c3 | c3
          · have : n = 1 := by simpa using c3
            subst this
            show Str.mk ((List.replicate 1 x.cps).foldl (· ++ ·) #[]) = x
            simp
          · have h0 : x.cps.size = 0 := eq_of_beq c3
            have : x.cps = #[] := Array.eq_empty_of_size_eq_zero h0
            show Str.mk ((List.replicate n.toNat x.cps).foldl (· ++ ·) #[]) = x
            rw [rep_zero _ h0, ← this]
        rw [e2] at q
        exact q.2 _
      · rw [if_neg c2]
        refine ⟨?_, q.1 _⟩
        show (repS x n.toNat).length ≤ _
        rw [hz, Nat.mul_comm]
        exact h2
theorem opD_mul : OpD T X (binaryOp .Mult) fMul := by
  intro pins s σ0 H x y v u Q I rx ry q
  obtain ⟨G, ρ, σ, d, e, r, tx, ty, q⟩ := q
  unfold fMul at q
  split at q
  · rename_i i j
    exact op_mul pins s σ0 H x y v u Q I rx ry ⟨i, j, tx.int, ty.int, q.1, q.2 _ H r (.int _)⟩
  · rename_i i j
    rw [tx.str] at rx
    rw [ty.int] at ry
    obtain ⟨t, rfl⟩ := rx
    obtain ⟨t', rfl⟩ := ry
    exact mul_strR q.1 ⟨fun t' => ⟨.str _, H, I.tok _, ⟨_, rfl⟩, q.2 _ H r (.str _)⟩, fun t' => ⟨.str _, H, I, ⟨_, rfl⟩, q.2 _ H r (.str _)⟩⟩
  · exact q.elim
def enumD (ds : List PyData) : List PyData := ds.zipIdx.map fun p => .tuple [.int (p.2 : Nat), p.1]
theorem enumD_get {ds : List PyData} {i : Nat} {d : PyData} (h : (enumD ds)[i]? = some d) : ∃ x, ds[i]? = some x ∧ d = .tuple [.int (i : Nat), x] := by
  unfold enumD at h
  rw [List.getElem?_map, List.getElem?_zipIdx] at h
  cases z : ds[i]? with
  | none => rw [z] at h; cases h
  | some x => rw [z] at h; cases h; exact ⟨x, rfl, by simp⟩
theorem enumD_length (ds : List PyData) : (enumD ds).length = ds.length := by simp [enumD]
def wDix (i : Nat) (k : Nat) : PW := fun ρ Q _ => ρ[i]? = some .dice ∧ k < 3 ∧ ∀ n : Int, Q (.int n)
theorem de_dix {i k j : Nat} (h : PE X a (tVar i)) : DE T X W (.Subscript a (.Constant (.int (k : Nat)) j p) pos) (wDix i k) := ⟨pe_mono (pe_ix ix_list h pe_int (fun _ _ => rfl)) fun σ H Q q => by
    obtain ⟨G, ρ, r, hd, hk, q⟩ := q
    obtain ⟨v, h1, b, rfl, hb⟩ := r.slot i _ hd
    obtain ⟨_, ⟨x, y, z, hH⟩, _⟩ := r.dcs b hb
    have three : k = 0 ∨ k = 1 ∨ k = 2 := by omega
    rcases three with rfl | rfl | rfl
    · exact ⟨_, h1, b, _, _, .int x, rfl, rfl, SqL.of hH, rfl, q x _ H r (.int _)⟩
    · exact ⟨_, h1, b, _, _, .int y, rfl, rfl, SqL.of hH, rfl, q y _ H r (.int _)⟩
    · exact ⟨_, h1, b, _, _, .int z, rfl, rfl, SqL.of hH, rfl, q z _ H r (.int _)⟩, fun ρ Q Q' E E' hq _ q => ⟨q.1, q.2.1, fun n => hq _ (q.2.2 n)⟩⟩
def sDst (i k : Nat) (w : PW) : SW := fun ρ D => ρ[i]? = some .dice ∧ k < 3 ∧ w ρ (fun d => match d with | .int _ => D.nx ρ | _ => False) D.ex
theorem ds_dst {i k j : Nat} {w : PW} (ho : PE X a (tVar i)) (h : DE T X W e w) (hs : swapsWithSole [.Subscript a (.Constant (.int (k : Nat)) j p2) p] e pos.line X.env = pure false := by rfl) (hw : swappedStores [.Subscript a (.Constant (.int (k : Nat)) j p2) p] e X.env = pure none := by rfl)
    (h1 : (assignEach [.Subscript a (.Constant (.int (k : Nat)) j p2) p] X.env).map (·.2) = [assign (.Subscript a (.Constant (.int (k : Nat)) j p2) p) X.env] := by rfl)
    (ha : ∀ v, assign (.Subscript a (.Constant (.int (k : Nat)) j p2) p) X.env v = (do
      let ov ← holding [v] (eval a X.env)
      let iv ← holding [v, ov] (eval (.Constant (.int (k : Nat)) j p2) X.env)
      standAt p
      holding [v, ov, iv] (setItem ov iv v)
      release [v, ov, iv] []) := by intro _; rfl) : DS T X W (.Assign [.Subscript a (.Constant (.int (k : Nat)) j p2) p] e pos) (sDst i k w) :=
  ⟨ps_mono (ps_asg h.pe (pg_sub ho pe_int set_list ha) hs hw h1) fun D σ H q => by
    obtain ⟨G, ρ, r, fa, hd, hk, q⟩ := q
    refine ⟨G, ρ, r, h.mono _ _ _ _ _ (fun d hd' v H1 r1 a1 => ?_) (fun _ z => ex_out' z) q⟩
    cases a1 with
    | int n =>
      obtain ⟨v, hv, b, rfl, hb⟩ := r1.slot i _ hd
      obtain ⟨hO, ⟨x, y, z, hH⟩, hfl⟩ := r1.dcs b hb
      have fin : ∀ x' y' z' : Int, D.nx σ (upd H1 b (.lst [.int x', .int y', .int z'])) := fun x' y' z' => by
        refine hd' σ _ G.O (r1.stepD (by rw [hide_upd hO]; exact ExtN.refl _) (fun c _ nc => upd_ne fun e => nc (by rw [e]; exact hb)) (fun c hc => ?_) (r1.tab.upd hH (.inl ⟨_, rfl⟩))) fa
        by_cases e : c = b
        · subst e; exact ⟨_, _, _, upd_same⟩
        · rw [upd_ne e]; exact (r1.dcs c hc).2.1
      have three : k = 0 ∨ k = 1 ∨ k = 2 := by omega
      rcases three with rfl | rfl | rfl
      · exact ⟨_, hv, b, _, _, 0, rfl, rfl, hH, rfl, fin n y z⟩
      · exact ⟨_, hv, b, _, _, 1, rfl, rfl, hH, rfl, fin x n z⟩
      · exact ⟨_, hv, b, _, _, 2, rfl, rfl, hH, rfl, fin x y n⟩
    | _ => exact hd'.elim, fun ρ D D' l q => ⟨q.1, q.2.1, h.mono _ _ _ _ _ (fun d hd => by cases d <;> first | exact l.nx _ hd | exact hd) l.ex q.2.2⟩⟩
end
end PL
set_option Elab.async false
set_option linter.all false
set_option maxRecDepth 100000
set_option maxHeartbeats 2000000
namespace PL
open PySem PySem.Spec PyProof.Rows L2 LamX
/-- all but the table at P stays -/
def ExtB (P : Addr) (H H' : Hp) : Prop := ∀ b o, b ≠ P → H b = some o → H' b = some o
section
variable {X : Cx} {pins : List (Addr × Obj)} {σ : L2.St} {H : Hp} {s : Shared} {T : Tb}
theorem Rep.extB {P : Addr} {K : PySem.W.Frag} {G : Gh} {ρ : En} {H' : Hp} {nm : Str} (r : Rep T K G ρ σ H) (hP : TabS H P nm) (e : ExtB P H H') (t : TOk T H') : Rep T K G ρ σ H' := by
  obtain ⟨ps, h1, _⟩ := hP
  have ne : ∀ {b o}, H b = some o → (∀ ps, o ≠ .tbl ps) → b ≠ P := fun {b o} h hn z => by rw [z, h1] at h; exact hn _ (Option.some.inj h).symm
  exact r.step (ext_hide fun b o _ h hn => e _ _ (ne h hn) h) (fun a ha => by obtain ⟨o, h, hn⟩ := r.dom a ha; rw [h, e _ _ (ne h hn) h]) t
end
end PL
set_option Elab.async false
set_option linter.all false
set_option maxRecDepth 100000
set_option maxHeartbeats 2000000
namespace PL
open PySem PySem.Spec PyProof.Rows L2
open LamX (ExtN Tabs TabS)
def lawEnd (n : Nat) : PEn where
  nx ρ := ρ.length = n
  rt d := d = .bool true
  bk _ := False
  ct ρ := ρ.length = n
  ex _ := False
def uns (n : Nat) : En := List.replicate n .un
def Triples (ds : List PyData) : Prop := ∀ d ∈ ds, ∃ x y z : Int, d = .list [.int x, .int y, .int z]
section
variable {T : Tb} {X : Cx} {W : WX} {pos p p2 pos2 pos' apos : Pos} {e a b tg iter : Expr} {es : List Expr} {body : List Stmt} {K : PySem.W.Frag} {G G2 : Gh} {ρ ρ2 : En} {σ σ2 : L2.St} {H H' : Hp} {D : Ends}
def tDices (T : Tb) (K : PySem.W.Frag) (W : WX) (wi : PW) (i n : Nat) (bw : SW) : TS := fun D σ H => ∃ G ρ, Rep T K G ρ σ H ∧ ρ.length = n ∧ T.dc = [] ∧
  wi ρ (fun d => ∃ ds, d = .list ds ∧ Triples ds ∧ bw ((uns n).set i .dice) (lawEnd n)) (fun _ => False) ∧ (∀ σ' H', D.nx σ' H') ∧ ∀ H', D.rt (.bl true) H'
theorem Rep.forget (r : Rep T K G ρ σ H) {n : Nat} (hn : ρ.length = n) : Rep T K G (uns n) σ H where
  len := by rw [← r.len, hn]; exact List.length_replicate
  slot i s hs := by
    have hi : i < n := by
      have := (List.getElem?_eq_some_iff.mp hs).1
      rwa [uns, List.length_replicate] at this
    rw [uns, List.getElem?_replicate, if_pos hi] at hs
    cases hs
    have hl : i < σ.length := by rw [← r.len, hn]; exact hi
    exact ⟨_, List.getElem?_eq_getElem hl, trivial⟩
  sep i j s t a hij hi hj hs ht e1 e2 := by
    rw [uns, List.getElem?_replicate] at hi
    split at hi
    · cases hi; cases hs
    · cases hi
  tab := r.tab
  ext := r.ext
  dom := r.dom
  fly := r.fly
  dcs := r.dcs
theorem triple_of {v : V} {d : PyData} (h : Da K H v d) (t : ∃ x y z : Int, d = .list [.int x, .int y, .int z]) : ∃ b x y z, v = .ref b ∧ H b = some (.lst [.int x, .int y, .int z]) := by
  obtain ⟨x, y, z, rfl⟩ := t
  cases h with
  | lst h1 h2 =>
    cases h2 with
    | cons a1 h2 => cases h2 with
      | cons a2 h2 => cases h2 with
        | cons a3 h2 =>
          cases h2
          cases a1; cases a2; cases a3
          exact ⟨_, x, y, z, rfl, h1⟩
theorem triples_of : ∀ {vs : List V} {ds : List PyData}, DaAll K H vs ds → Triples ds → ∃ dc : List Addr, vs = dc.map V.ref ∧ ∀ b ∈ dc, ∃ x y z, H b = some (.lst [.int x, .int y, .int z])
  | _, _, .nil, _ => ⟨[], rfl, fun b hb => by cases hb⟩
  | _, _, .cons h r, t => by
    obtain ⟨b, x, y, z, rfl, hb⟩ := triple_of h (t _ List.mem_cons_self)
    obtain ⟨dc, rfl, hd⟩ := triples_of r fun d hd => t d (List.mem_cons_of_mem _ hd)
    exact ⟨b :: dc, rfl, fun c hc => by
      rcases List.mem_cons.mp hc with z' | z'
      · rw [z']; exact ⟨x, y, z, hb⟩
      · exact hd c z'⟩
theorem ps_dices {i n : Nat} {wi : PW} {bw : SW} (hp : PassesOwn (model X.prog X.w) X.A X.env X.xe) (hc : X.calm = true) (hin : i < n) (hi : DE T X W iter wi) (hg : PG X tg (gName i)) (hb : ∀ dc, DSs { T with dc := dc } X W body bw)
    (hs : ∀ x, foldedSetIterable iter X.env x = pure x := by intro _; rfl) : PS X (.For tg iter body [] pos) (tDices T X.K W wi i n bw) :=
  ps_mono (ps_for hp hc (pi_list hi.pe) hg (tb := fun D σ H => ∃ dc, liftS { T with dc := dc } X.K W bw D σ H) ⟨fun pins s σ H Q I ⟨dc, q⟩ => (hb dc).ps.run pins s σ H Q I q⟩ hs) fun D σ H q => by
    obtain ⟨G, ρ, r, hn, hdc, q, qn, qr⟩ := q
    refine ⟨G, ρ, r, hi.mono _ _ _ _ _ (fun d hd v H1 r1 a1 => ?_) (fun _ z => z.elim) q⟩
    obtain ⟨ds, rfl, tr, hw⟩ := hd
    cases a1 with
    | lst h1 h2 =>
      rename_i a vs
      obtain ⟨dc, rfl, hd⟩ := triples_of h2 tr
      obtain ⟨naO, hA⟩ := hide_some h1
      have nad : a ∉ dc := fun z => by
        obtain ⟨x, y, u, e⟩ := hd a z
        rw [h1] at e
        cases dc with
        | nil => cases z
        | cons c t => cases e
      let Hb : Hp := fun b => if b = a then some (.lst (dc.map V.ref)) else none
      have r2 : Rep { T with dc := dc } X.K ⟨Hb, G.O ++ dc, []⟩ (uns n) σ H1 := {
        len := (r1.forget hn).len
        slot := fun i s hs => by
          obtain ⟨v, h3, h4⟩ := (r1.forget hn).slot i s hs
          have hi : i < n := by
            have := (List.getElem?_eq_some_iff.mp hs).1
            rwa [uns, List.length_replicate] at this
          rw [uns, List.getElem?_replicate, if_pos hi] at hs
          cases hs
          exact ⟨v, h3, trivial⟩
        sep := (r1.forget hn).sep
        tab := ⟨r1.tab.g, r1.tab.l, r1.tab.n, r1.tab.c, r1.tab.k⟩
        ext := fun b o hb _ => by
          have hb : Hb b = some o := hb
          show hide (G.O ++ dc) H1 b = some o
          by_cases z : b = a
          · subst z
            rw [show Hb b = some (.lst (dc.map V.ref)) from if_pos rfl] at hb
            cases hb
            rw [hide_out (fun z => (List.mem_append.mp z).elim naO nad)]
            exact hA
          · rw [show Hb b = none from if_neg z] at hb
            cases hb
        dom := fun b hb => by
          rcases List.mem_append.mp hb with z | z
          · exact r1.dom b z
          · obtain ⟨x, y, u, e⟩ := hd b z
            exact ⟨_, (hide_some e).2, fun ps e => by cases e⟩
        fly := fun p hp => by cases hp
        dcs := fun b hb => ⟨List.mem_append_right _ hb, by obtain ⟨x, y, u, e⟩ := hd b hb; exact ⟨x, y, u, (hide_some e).2⟩, fun q hq => by cases hq⟩ }
      refine ⟨a, rfl, ⟨_, SqL.of hA⟩, fun k m σ' H' => m = dc.length - k ∧ ∃ O', Rep { T with dc := dc } X.K ⟨Hb, O', []⟩ (uns n) σ' H', ⟨_, rfl, _, r2⟩, fun k m σ' H' hW => ?_⟩
      obtain ⟨rfl, O', r3⟩ := hW
      have hA' : H' a = some (.lst (dc.map V.ref)) := (hide_some (r3.ext a _ (if_pos rfl) fun ps e => by cases e)).2
      by_cases hk : k < dc.length
      · have hx : (dc.map V.ref)[k]? = some (V.ref dc[k]) := by rw [List.getElem?_map, List.getElem?_eq_getElem hk]; rfl
        refine .inr ⟨⟨_, _, SqL.of hA', hx⟩, fun σ'' H'' => ∃ O'', Rep { T with dc := dc } X.K ⟨Hb, O'', []⟩ (uns n) σ'' H'', fun σ'' H'' h => ⟨dc.length - (k + 1), by omega, rfl, h⟩, fun x H3 hy => ?_⟩
        obtain ⟨rfl, hx2⟩ := hy
        have ex : x = V.ref dc[k] := Option.some.inj ((hx2 _ (SqL.of hA')).symm.trans hx)
        subst ex
        have r4 := r3.setSl (i := i) (v := V.ref dc[k]) (s := .dice) ⟨dc[k], rfl, List.getElem_mem hk⟩ (fun z => by cases z)
        refine ⟨dc, ⟨Hb, O', []⟩, _, r4, (fun q hq => by cases hq), (hb dc).mono _ (lawEnd n) _ ⟨fun ρ3 h3 σ3 H3 O3 r5 _ => ⟨O3, r5.forget h3⟩, fun d hd v ρ3 σ3 H3 O3 r5 a5 => ?_, fun _ z => z.elim, fun ρ3 h3 σ3 H3 O3 r5 _ => ⟨O3, r5.forget h3⟩, fun _ z => z.elim, fun _ z => z.elim⟩ hw⟩
        have hd : d = .bool true := hd
        subst hd
        cases a5
        exact qr H3
      · refine .inl ⟨⟨_, SqL.of hA', by rw [List.length_map]; omega⟩, qn _ _⟩
    | _ => cases ‹PyData.list ds = _›
theorem law_okD {P : Program} {w : World} {mg : Str → Option Value} {base : Heap} {st : Stmt} {f c : Addr} {fd : FuncData} {N : List Str} {k i j : Nat} {wi : PW} {bw : SW} (F : FunC K "law" st f c fd) (S : FnScope N ["script"] (defScope st)) (hN : 0 < N.length) (hin : i < N.length) (hdc : T.dc = [])
    (htx : defBody st = [.For tg iter body [] pos, .Return (some (.Constant (.bool true) j p)) p2])
    (hi : ∀ (A : Around) (outer : List Env) (s : Shared) (H : Hp) (E : XK), Room k (A.deeper (envOfC "law" (defScope st) s.heap.objs.size f (.ref c))) → DE T (cxOf (L2.CX P w) P w K mg base N "law" (defScope st) f (.ref c) A outer s H E) (fun cls d _ H => E cls d H) iter wi)
    (hg : ∀ (A : Around) (outer : List Env) (s : Shared) (H : Hp) (E : XK), PG (cxOf (L2.CX P w) P w K mg base N "law" (defScope st) f (.ref c) A outer s H E) tg (gName i))
    (hb : ∀ (A : Around) (outer : List Env) (s : Shared) (H : Hp) (E : XK) dc, Room k (A.deeper (envOfC "law" (defScope st) s.heap.objs.size f (.ref c))) → DSs { T with dc := dc } (cxOf (L2.CX P w) P w K mg base N "law" (defScope st) f (.ref c) A outer s H E) (fun cls d _ H => E cls d H) body bw)
    (hs : ∀ (A : Around) (outer : List Env) (s : Shared) (H : Hp) (E : XK) x, foldedSetIterable iter (cxOf (L2.CX P w) P w K mg base N "law" (defScope st) f (.ref c) A outer s H E).env x = pure x := by intros; rfl)
    (hpure : ∀ ns : List Int, ns.length ≤ 63 → wi (.scr ns :: uns (N.length - 1)) (fun d => ∃ ds, d = .list ds ∧ Triples ds ∧ bw ((uns N.length).set i .dice) (lawEnd N.length)) (fun _ => False)) :
    FnOk P w K mg base (L2.CX P w) (k + 1) f fd ["script"] (fun vs H Q _ => ∃ (a : Addr) (ns : List Int), vs = [.ref a] ∧ ns.length ≤ 63 ∧ SqL K H a (ns.map V.int) ∧ TOk T H ∧ ∀ H', Q (.bl true) H') := by
  refine F.okX S (fun vs H Q E h => ?_) (fun A outer s H vs Q E hr h => ?_)
  · obtain ⟨a, ns, rfl, _⟩ := h
    rfl
  · obtain ⟨a, ns, rfl, hl, hS, ht, hQ⟩ := h
    rw [htx]
    refine ⟨_, pss_cons (ps_dices (T := T) (n := N.length) (passes_of rfl) rfl hin (hi A outer s H E hr) (hg A outer s H E) (fun dc => hb A outer s H E dc hr) (hs A outer s H E)) (pss_one (ps_ret pe_bl)), ?_⟩
    refine ⟨⟨fun _ => none, [], []⟩, .scr ns :: uns (N.length - 1), ?_, ?_, hdc, hpure ns hl, fun σ' H' => hQ H', fun H' => hQ H'⟩
    · have e : L2.start N [V.ref a] = ([V.ref a].map some) ++ List.replicate (N.length - 1) none := rfl
      rw [e]
      refine Rep.more (ρ := [.scr ns]) ⟨rfl, fun i s hs => ?_, fun i j s t b hij hi hj hs ht => ?_, ht, (fun b o e _ => by cases e), (fun b hb => by cases hb), (fun p hp => by cases hp), (fun b hb => by rw [hdc] at hb; cases hb)⟩ _
      · cases i with
        | zero =>
          cases hs
          exact ⟨_, rfl, a, rfl, by rw [hide_nil]; exact hS⟩
        | succ i => simp at hs
      · cases i with
        | zero => cases hi; cases hs
        | succ i => simp at hi
    · rw [List.length_cons, uns, List.length_replicate]
      omega
end
end PL
set_option Elab.async false
set_option linter.all false
set_option maxRecDepth 100000
set_option maxHeartbeats 2000000
namespace PL
open PySem PySem.Spec PyProof.Rows L2 LamX
/-- as the end for the law's own table, for every def's -/
theorem walk_all {l : PySem.W.OpenLaw} {n k : Nat} {q : Program} {loose : List Str} {XP : (Str → Option Value) → Heap → Prop} {YP : World → Heap → Prop} {d : DefRec} {K : Params → PySem.W.Frag} {CX : World → CXT} {x : Str}
    (hn : l.most = some n) (hn2 : n ≤ sizeLine) (hdf : d.params.defaults = []) (hr : Room k callerA) (hY : ∀ (w : World) (h : Heap), YP w h → (K w.params).In h)
    (F : ∀ (w : World) (mg : Str → Option Value) (fa : Addr) (h : Heap), YP w h → (K w.params).In h → h.Ns mainGlobals mg → mg d.name = some (.ref fa) →
      (∀ (y : Str) (f : Addr), ((recsOf q).any fun e => e.name == y) = true → mg y = some (.ref f) → OwnTab (K w.params) f h) → LawAtS l w (K w.params) (CX w) k n x mg fa h)
    (hCX : ∀ (w : World) (H : Hp) (s : Shared) (e : Value) (s' : Shared), CX w [] H s (fun _ _ _ => False) e s' → False) : PySem.W.WalkO q loose XP YP l.row.toRowW d [] (fun f vs => PySem.call f vs) := by
  refine Att.attach_callB hn hdf fun w s₀ s₁ mg mb fa o pm cd doc a vs ns G Y ho hd hcd hmg hobj hints hlen hbits hg => ?_
  have KX := hY w _ Y
  obtain ⟨fd, cs, sp, hT, nT, C, hb, hsp, hF⟩ := F w mg fa _ Y KX G.T.g hmg fun y f hy hmy c P o1 fd1 e dd vs1 sl k1 k2 k3 k4 k5 => by
    obtain ⟨dL, hm, he⟩ := List.any_eq_true.mp hy
    obtain ⟨a', o', fd', c', P', h1, h2, h3, h4, h5, ⟨⟨oc, vc, e1, _, e3, e4⟩, hP⟩⟩ := G.T.tab dL hm
    rw [beq_iff_eq.mp he, hmy] at h1; cases h1
    rw [KX _ _ k1] at h2; cases h2
    rw [k2] at h3; cases h3
    rw [k3] at h4; cases h4
    rw [KX _ _ k4] at e1; cases e1
    cases e3
    rw [k5] at e4; cases e4
    exact hP
  exact law_callTs KX G.T.g G.T.b G.T.builtins G.T.nolimit hg hT nT C G.T.bmain hobj hints (Nat.le_trans hlen hn2) hr hF hb (fun H hH hS => hsp H a ns hlen hbits hH hS) fun H e s' => hCX w H s₁ e s'
/-- what the top has written of a def -/
structure DefF (K : PySem.W.Frag) (x : Str) (st : Stmt) (f c : Addr) (fd : FuncData) : Prop where
  ns : PySem.W.nsIn K mainGlobals x = some (some (.ref f))
  F : FunC K x st f c fd
theorem def_mk {K : PySem.W.Frag} {x : Str} {st : Stmt} {f c : Addr} {oc : Value} {od an : Option Addr} {osl : Array (Option Value)} {kV doc pm ct : Value} (a : PySem.W.nsIn K mainGlobals x = some (some (.ref f))) (l : K.lookup f = some ⟨oc, od, .func (PySem.W.fnOf x x (defArgs st) (defBody st) (defScope st) .none kV doc pm an (.ref c) ct), osl⟩)
    (h : PySem.W.codeIn K (.ref c) x = true) (k : PySem.W.keepIn K (.ref f) = true) : DefF K x st f c (PySem.W.fnOf x x (defArgs st) (defBody st) (defScope st) .none kV doc pm an (.ref c) ct) := ⟨a, ⟨⟨oc, od, kV, doc, pm, an, ct, osl, rfl, l, h⟩, k⟩⟩
/-- .. and of its table -/
structure TabF (K : PySem.W.Frag) (c P : Addr) : Prop where
  ex : ∃ (e : Value) (dd : Option Addr) (vs : Array Value) (sl : Array (Option Value)), K.lookup c = some ⟨e, dd, .fields vs, sl⟩ ∧ vs[11]? = some (.ref P)
  hd : PySem.W.codeHdIn K c P = true
  out : K.lookup P = none
theorem TabF.empty {K : PySem.W.Frag} {x : Str} {st : Stmt} {f c P : Addr} {fd : FuncData} {h : Heap} (t : TabF K c P) (F : FunC K x st f c fd) (o : OwnTab K f h) : h.get? P = some { cls := .none, data := .fields #[] } := by
  obtain ⟨e, dd, vs, sl, h1, h2⟩ := t.ex
  obtain ⟨oc, od, kV, doc, pm, an, ct, osl, rfl, lk, hcd⟩ := F.ex
  exact o c P _ _ e dd vs sl lk rfl rfl h1 h2
theorem tab_mk {K : PySem.W.Frag} {c P : Addr} {e : Value} {dd : Option Addr} {vs : Array Value} {sl : Array (Option Value)} (a : K.lookup c = some ⟨e, dd, .fields vs, sl⟩) (b : vs[11]? = some (.ref P)) (h : PySem.W.codeHdIn K c P = true) (o : K.lookup P = none) : TabF K c P := ⟨⟨e, dd, vs, sl, a, b⟩, h, o⟩
/-- what the top has written of an error's class -/
structure ExcF (K : PySem.W.Frag) (x : Str) (C : Addr) : Prop where
  ns : PySem.W.nsIn K mainGlobals x = some (some (.ref C))
  kp : PySem.W.keepIn K (.ref C) = true
  sub : PySem.W.subIn K (.ref C) (.type "BaseException") = some true
  ty : PySem.W.typeIn K (.ref C) = some (.type "type")
end PL
set_option Elab.async false
set_option linter.all false
set_option maxRecDepth 100000
set_option maxHeartbeats 2000000
namespace PL
open PySem PySem.Spec PyProof.Rows L2
def blkB (N : List Str) (sc scope : Scope) (own : List (Str × Nat)) : Bool :=
  decide (scope.kind = .function) && scope.names.all (fun y => scope.names.lookup y.1 == some y.2) && own.all (fun p => N[p.2]? == some p.1) &&
  scope.names.all (fun y => !(y.2 == .free) || sc.names.lookup y.1 == some .cell || sc.names.lookup y.1 == some .free) && scope.names.all (fun y => !(y.2 == .local || y.2 == .cell) || (own.map (·.1)).contains y.1 || !N.contains y.1)
theorem blk_by {N : List Str} {sc scope : Scope} {own : List (Str × Nat)} (h : blkB N sc scope own = true) : BlkOk N sc scope own := by
  unfold blkB at h
  simp only [Bool.and_eq_true, List.all_eq_true, decide_eq_true_eq, Bool.or_eq_true, Bool.not_eq_true', beq_iff_eq, beq_eq_false_iff_ne, ne_eq] at h
  obtain ⟨⟨⟨⟨h1, h2⟩, h3⟩, h4⟩, h5⟩ := h
  refine ⟨h1, h2, h3, fun y hy e => ?_, fun y hy e => ?_⟩
  · rcases h4 y hy with (z | z) | z
    · exact absurd e z
    · exact .inl z
    · exact .inr z
  · rcases h5 y hy with (z | z) | z
    · rcases e with e | e <;> rw [e] at z <;> cases z
    · exact .inl (by simpa using z)
    · exact .inr (by simpa using z)
theorem nocell_by {scope : Scope} (h : scope.names.all (fun y => !(y.2 == .cell)) = true) : ∀ y ∈ scope.names, y.2 ≠ .cell := by
  simp only [List.all_eq_true, Bool.not_eq_true', beq_eq_false_iff_ne, ne_eq] at h
  exact h
def fAddS : PyData → PyData → (PyData → Prop) → Prop := fun x y Q => match x, y with | .int i, .int j => Q (.int (i + j)) | .str x, .str y => x.length + y.length ≤ sizeLine ∧ Q (.str (x ++ y)) | _, _ => False
theorem mono_addS : MonoF fAddS := fun x y Q Q' hq h => by
  unfold fAddS at h ⊢
  split at h
  · exact hq _ h
  · exact ⟨h.1, hq _ h.2⟩
  · exact h
def fIsN : PyData → PyData → (PyData → Prop) → Prop := fun x y Q => y = .none ∧ Q (.bool (isN x))
theorem mono_isN : MonoF fIsN := fun x y Q Q' hq h => ⟨h.1, hq _ h.2⟩
theorem hTB (K : PySem.W.Frag) (H : Hp) (v : V) (y : Bool) (h : Da K H v (.bool y)) : v = .bl y := h.bl_
theorem hTI (K : PySem.W.Frag) (H : Hp) (v : V) (y : Int) (h : Da K H v (.int y)) : v = .int y := h.int_
def lawIter : Stmt → Expr := fun st => match defBody st with
  | .For _ it _ _ _ :: _ => it
  | _ => .Constant .none 0 ⟨0, 0, 0, 0⟩
def lawBody : Stmt → List Stmt := fun st => match defBody st with
  | .For _ _ b _ _ :: _ => b
  | _ => []
section
variable {T : Tb} {X : Cx} {W : WX} {pos : Pos} {a : Expr}
def wNeg (w : PW) : PW := fun ρ Q E => w ρ (fun d => match d with | .int i => Q (.int (-i)) | _ => False) E
theorem de_neg {w : PW} (h : DE T X W a w) : DE T X W (.UnaryOp .USub a pos) (wNeg w) := ⟨pe_mono (pe_un un_neg h.pe) fun σ H Q q => by
  obtain ⟨G, ρ, r, q⟩ := q
  refine ⟨G, ρ, r, h.mono _ _ _ _ _ (fun d hd v H' r' a => ?_) (fun _ z => z) q⟩
  cases a with
  | int i => exact ⟨i, rfl, hd _ H' r' (.int _)⟩
  | _ => exact hd.elim, fun ρ Q Q' E E' hq he q => h.mono _ _ _ _ _ (fun d hd => by cases d <;> first | exact hq _ hd | exact hd) he q⟩
end
end PL
namespace PL
open PySem in
theorem gxTab {base : Heap} {mg : Str → Option Value} {c P : Addr} (b : LamX.TabB base mg c P) : GxR.TabB base mg c P := ⟨b.code, b.bm, b.gP⟩
end PL
namespace PL
end PL
set_option Elab.async false
set_option linter.all false
set_option maxRecDepth 100000
set_option maxHeartbeats 2000000
namespace PL
open PySem PySem.Spec PyProof.Rows L2
open LamX (ExtN Tabs TabS)
section
variable {T : Tb} {X : Cx} {W : WX} {pos p pos' apos cpos : Pos} {e a b c : Expr} {es : List Expr} {st : Stmt} {K : PySem.W.Frag} {G G2 : Gh} {ρ ρ2 : En} {σ σ2 : L2.St} {H H' : Hp} {D : Ends}
theorem Rep.wrO (r : Rep T K G ρ σ H) {i : Nat} {s0 s' : Sl} {a : Addr} {o o' : HO} (hi : ρ[i]? = some s0) (h0 : s0.owned = true) (hv : σ[i]? = some (some (.ref a))) (ha : Own T.dc G.O a) (h1 : H a = some o) (hc : Cont o) (ho : ∀ ps, o' ≠ .tbl ps) (hs' : s'.owned = true)
    (hx : ∀ H2, hide G.O H2 = hide G.O H → H2 a = some o' → SlOk K T.dc G.O H2 s' (some (.ref a))) (hfl : ∀ q ∈ G.fl, q.1 ≠ a) : Rep T K G (ρ.set i s') σ (upd H a o') := by
  have eh : hide G.O (upd H a o') = hide G.O H := hide_upd ha.1
  have hil : i < ρ.length := (List.getElem?_eq_some_iff.mp hi).1
  refine ⟨by rw [List.length_set]; exact r.len, fun j s hs => ?_, fun j k s t b hjk hj hk hs ht e1 e2 => ?_, r.tab.upd h1 hc, by rw [eh]; exact r.ext, fun b hb => ?_, fun q hq => ?_, fun b hb => ⟨(r.dcs b hb).1, by rw [upd_ne fun z => ha.2 (by rw [← z]; exact hb)]; exact (r.dcs b hb).2.1, (r.dcs b hb).2.2⟩⟩
  · by_cases e : i = j
    · subst e
      rw [List.getElem?_set_self hil] at hs
      cases hs
      exact ⟨_, hv, hx _ eh upd_same⟩
    · rw [List.getElem?_set_ne e] at hs
      obtain ⟨u, h2, h3⟩ := r.slot j s hs
      have ne : ∀ b, s.owned = true → u = some (.ref b) → b ≠ a := fun b hw eu z => by
        rw [eu, z] at h2
        exact r.sep i j _ s a e hi hs h0 hw hv h2
      refine ⟨u, h2, ?_⟩
      cases s with
      | un => trivial
      | sh d => obtain ⟨x, h4, h5⟩ := h3; exact ⟨x, h4, by rw [eh]; exact h5⟩
      | ol _ => obtain ⟨b, us, h4, h5, h6, h7⟩ := h3; exact ⟨b, us, h4, h5, by rw [upd_ne (ne b rfl h4)]; exact h6, by rw [eh]; exact h7⟩
      | ok _ => obtain ⟨b, us, h4, h5, h6, h7, h8⟩ := h3; exact ⟨b, us, h4, h5, by rw [upd_ne (ne b rfl h4)]; exact h6, h7, by rw [eh]; exact h8⟩
      | ot _ => obtain ⟨b, us, h4, h5, h6, h7, h8⟩ := h3; exact ⟨b, us, h4, h5, by rw [upd_ne (ne b rfl h4)]; exact h6, h7, by rw [eh]; exact h8⟩
      | ln b _ => obtain ⟨h4, h5, hob, h6, h8⟩ := h3; exact ⟨h4, h5, hob, by rw [upd_ne (ne b rfl h4)]; exact h6, by rw [eh]; exact h8⟩
      | on _ => obtain ⟨b, us, h4, h5, h6, h7, h8⟩ := h3; exact ⟨b, us, h4, h5, by rw [upd_ne (ne b rfl h4)]; exact h6, h7, by rw [eh]; exact h8⟩
      | sn d => obtain ⟨x, h4, h5⟩ := h3; exact ⟨x, h4, by rw [eh]; exact h5⟩
      | sk d => obtain ⟨x, h4, h5⟩ := h3; exact ⟨x, h4, by rw [eh]; exact h5⟩
      | dice => exact h3
      | scr ns => obtain ⟨b, h4, h5⟩ := h3; exact ⟨b, h4, by rw [eh]; exact h5⟩
  · have own : ∀ {l : Nat} {u : Sl}, (ρ.set i s')[l]? = some u → u.owned = true → ∃ u', ρ[l]? = some u' ∧ u'.owned = true := fun {l u} hl hu => by
      by_cases e : i = l
      · subst e; exact ⟨_, hi, h0⟩
      · rw [List.getElem?_set_ne e] at hl; exact ⟨u, hl, hu⟩
    obtain ⟨s1, hj', hs'⟩ := own hj hs
    obtain ⟨t', hk', ht'⟩ := own hk ht
    exact r.sep j k s1 t' b hjk hj' hk' hs' ht' e1 e2
  · by_cases z : b = a
    · rw [z, upd_same]; exact ⟨_, rfl, ho⟩
    · rw [upd_ne z]; exact r.dom b hb
  · obtain ⟨h2, h3⟩ := r.fly q hq
    exact ⟨h2, by rw [upd_ne (hfl q hq)]; exact h3⟩
def keyOf : PyData → Option Key
  | .int i => some (.inl i)
  | .str x => some (.inr x)
  | _ => none
def keysOf : List PyData → Option (List Key)
  | [] => some []
  | d :: r => match keyOf d, keysOf r with
    | some k, some ks => some (k :: ks)
    | _, _ => none
def keyT : PyData → Option (List Key)
  | .tuple ds => keysOf ds
  | _ => none
/-- a key that is no empty tuple -/
def keyTn : PyData → Option (List Key)
  | .tuple (d :: ds) => keysOf (d :: ds)
  | _ => none
theorem keyOf_da {v : V} {d : PyData} {k : Key} (h : Da K H v d) (e : keyOf d = some k) : v = kV k := by
  cases h <;> simp [keyOf] at e <;> subst e <;> rfl
theorem keysOf_da : ∀ {vs : List V} {ds : List PyData} {ks : List Key}, DaAll K H vs ds → keysOf ds = some ks → vs = ks.map kV
  | _, _, ks, .nil, e => by cases e; rfl
  | _, _, ks, .cons (v := v) (vs := vs) (d := d) (ds := ds) h r, e => by
    simp only [keysOf] at e
    cases h1 : keyOf d with
    | none => rw [h1] at e; cases e
    | some k =>
      cases h2 : keysOf ds with
      | none => rw [h1, h2] at e; cases e
      | some ks' =>
        rw [h1, h2] at e
        cases e
        rw [keyOf_da h h1, keysOf_da r h2]
        rfl
theorem keyOf_is {d : PyData} {k : Key} (e : keyOf d = some k) : d = keyD k := by
  cases d <;> simp [keyOf] at e <;> subst e <;> rfl
theorem keysOf_all : ∀ {ds : List PyData} {ks : List Key}, keysOf ds = some ks → ∀ d ∈ ds, ∃ k, d = keyD k
  | d :: ds, ks, e, x, hx => by
    simp only [keysOf] at e
    cases h1 : keyOf d with
    | none => rw [h1] at e; cases e
    | some k =>
      cases h2 : keysOf ds with
      | none => rw [h1, h2] at e; cases e
      | some ks' =>
        rcases List.mem_cons.mp hx with rfl | hx
        · exact ⟨k, keyOf_is h1⟩
        · exact keysOf_all h2 x hx
theorem keyT_da {v : V} {d : PyData} {k : List Key} (h : Da K H v d) (e : keyTn d = some k) : ∃ b, v = .ref b ∧ H b = some (.tup (k.map kV)) := by
  cases h with
  | tup h1 h2 =>
    rename_i ds
    cases ds with
    | nil => cases e
    | cons d ds => exact ⟨_, rfl, by rw [h1, keysOf_da h2 e]⟩
  | ftup h1 h2 h3 h4 =>
    rename_i ds
    cases ds with
    | nil => cases e
    | cons d ds =>
      rcases h3 with h3 | ⟨x, hx, hn⟩
      · cases h3
      · obtain ⟨k', ek⟩ := keysOf_all e x hx
        exact absurd ek (hn k')
  | _ => cases e
def lookK {κ : Type} [DecidableEq κ] (kvs : List (κ × PyData)) (k : κ) : Option PyData := (kvs.find? fun p => decide (p.1 = k)).map (·.2)
def putD {κ : Type} [DecidableEq κ] (kvs : List (κ × PyData)) (k : κ) (d : PyData) : List (κ × PyData) :=
  if (kvs.any fun p => decide (p.1 = k)) = true then kvs.map (fun p => if p.1 = k then (p.1, d) else p) else kvs ++ [(k, d)]
theorem look_da {κ : Type} [DecidableEq κ] {k : κ} : ∀ {vs : List (κ × V)} {kvs : List (κ × PyData)}, vs.map (·.1) = kvs.map (·.1) → DaAll K H (vs.map (·.2)) (kvs.map (·.2)) →
    (∃ v d, valV vs k = some v ∧ lookK kvs k = some d ∧ Da K H v d) ∨ (valV vs k = none ∧ lookK kvs k = none)
  | [], [], _, _ => .inr ⟨rfl, rfl⟩
  | [], _ :: _, e, _ => by cases e
  | _ :: _, [], e, _ => by cases e
  | p :: r, q :: t, e, h => by
    injection e with e1 e2
    cases h with
    | cons h1 h2 =>
      by_cases z : q.1 = k
      · exact .inl ⟨p.2, q.2, valV_pos (e1.trans z), by simp [lookK, List.find?_cons, z], h1⟩
      · rw [valV_neg (fun y => z (e1.symm.trans y)), show lookK (q :: t) k = lookK t k by simp [lookK, List.find?_cons, z]]
        exact look_da e2 h2
theorem put_da {κ : Type} [DecidableEq κ] {k : κ} {v : V} {d : PyData} (hd : Da K H v d) {vs : List (κ × V)} {kvs : List (κ × PyData)} (e : vs.map (·.1) = kvs.map (·.1)) (h : DaAll K H (vs.map (·.2)) (kvs.map (·.2))) :
    (putK vs k v).map (·.1) = (putD kvs k d).map (·.1) ∧ DaAll K H ((putK vs k v).map (·.2)) ((putD kvs k d).map (·.2)) := by
  have hany : (vs.any fun p => decide (p.1 = k)) = (kvs.any fun p => decide (p.1 = k)) := by
    have : (vs.map (·.1)).any (fun x => decide (x = k)) = (kvs.map (·.1)).any (fun x => decide (x = k)) := by rw [e]
    rwa [List.any_map, List.any_map] at this
  unfold putK putD
  rw [hany]
  by_cases c : (kvs.any fun p => decide (p.1 = k)) = true
  · rw [if_pos c, if_pos c]
    have key : ∀ (vs : List (κ × V)) (kvs : List (κ × PyData)), vs.map (·.1) = kvs.map (·.1) → DaAll K H (vs.map (·.2)) (kvs.map (·.2)) → (vs.map fun kv => if kv.1 = k then (kv.1, v) else kv).map (·.1) = (kvs.map fun p => if p.1 = k then (p.1, d) else p).map (·.1) ∧ DaAll K H ((vs.map fun kv => if kv.1 = k then (kv.1, v) else kv).map (·.2)) ((kvs.map fun p => if p.1 = k then (p.1, d) else p).map (·.2)) := by
      intro vs
      induction vs with
      | nil => intro kvs e h; cases kvs with
        | nil => exact ⟨rfl, .nil⟩
        | cons _ _ => cases e
      | cons q r ih => intro kvs e h; cases kvs with
        | nil => cases e
        | cons q' t =>
          injection e with e1 e2
          cases h with
          | cons h1 h2 =>
            obtain ⟨i1, i2⟩ := ih t e2 h2
            have e1 : q.1 = q'.1 := e1
            simp only [List.map_cons]
            by_cases z : q'.1 = k
            · rw [if_pos z, if_pos (e1.trans z)]
              exact ⟨by rw [i1, e1], .cons hd i2⟩
            · rw [if_neg z, if_neg (fun y => z (e1.symm.trans y))]
              exact ⟨by rw [i1, e1], .cons h1 i2⟩
    exact key vs kvs e h
  · rw [if_neg c, if_neg c]
    simp only [List.map_append, List.map_cons, List.map_nil]
    exact ⟨by rw [e], h.append (.cons hd .nil)⟩
def sPut (i : Nat) (wk w : PW) : SW := fun ρ D => match ρ[i]? with
  | some (.ok kvs) => w ρ (fun d => wk ρ (fun k => ∃ key, keyOf k = some key ∧ kvs.length < sizeLine ∧ D.nx (ρ.set i (.ok (putD kvs key d)))) D.ex) D.ex
  | some (.ot kvs) => w ρ (fun d => wk ρ (fun k => ∃ key, keyTn k = some key ∧ kvs.length < sizeLine ∧ D.nx (ρ.set i (.ot (putD kvs key d)))) D.ex) D.ex
  | some (.ln a (.t kvs)) => w ρ (fun d => wk ρ (fun k => ∃ key, keyTn k = some key ∧ kvs.length < sizeLine ∧ D.nx (ρ.set i (.ln a (.t (putD kvs key d))))) D.ex) D.ex
  | _ => False
theorem length_of_map {α β γ : Type} {f : α → γ} {g : β → γ} {xs : List α} {ys : List β} (h : xs.map f = ys.map g) : xs.length = ys.length := by
  have := congrArg List.length h
  rwa [List.length_map, List.length_map] at this
theorem ds_put {i : Nat} {w wk : PW} {k : Nat} (hr : Room k X.A) (ho : PE X a (tVar i)) (hk : DE T X W b wk) (h : DE T X W e w) (hs : swapsWith e (some (.Subscript a b pos')) pos.line X.env = pure false := by rfl) : DS T X W (.Assign [.Subscript a b pos'] e pos) (sPut i wk w) :=
  ⟨ps_mono (ps_dput (hu_of hr) ho hk.pe h.pe hs) fun D σ H q => by
    obtain ⟨G, ρ, r, fa, q⟩ := q
    unfold sPut at q
    split at q
    · rename_i kvs hd
      refine ⟨G, ρ, r, h.mono _ _ _ _ _ (fun d hd' v H1 r1 a1 => ?_) (fun _ z => ex_out' z) q⟩
      obtain ⟨u, h1, b, vs, rfl, h3, h4, h5, h6⟩ := r1.slot i _ hd
      refine ⟨_, h1, lift_intro hk.mono r1 (hk.mono _ _ _ _ _ (fun k hk' y H2 r2 e2 a2 => ?_) (fun _ z => ex_out' z) hd')⟩
      obtain ⟨key, ek, hl, q⟩ := hk'
      obtain ⟨v', h1', b', vs', e', h3', h4', h5', h6'⟩ := r2.slot i _ hd
      rw [h1] at h1'
      cases h1'
      cases e'
      rw [keyOf_da a2 ek]
      obtain ⟨p1, p2⟩ := put_da (k := key) (a1.ext e2) h5' h6'
      refine ⟨_, _, rfl, DPut.k h4' (by rw [length_of_map h5']; exact hl), ?_⟩
      exact q σ _ G.O (r2.wrO hd rfl h1 h3' h4' (.inr (.inl ⟨_, rfl⟩)) (fun ps z => by cases z) rfl (fun H3 eh hb => ⟨_, _, rfl, h3', hb, p1, by rw [eh]; exact p2⟩) fun q hq z => fa q hq i _ hd rfl (by rw [z]; exact h1)) (fa.wr hd rfl)
    · rename_i kvs hd
      refine ⟨G, ρ, r, h.mono _ _ _ _ _ (fun d hd' v H1 r1 a1 => ?_) (fun _ z => ex_out' z) q⟩
      obtain ⟨u, h1, b, vs, rfl, h3, h4, h5, h6⟩ := r1.slot i _ hd
      refine ⟨_, h1, lift_intro hk.mono r1 (hk.mono _ _ _ _ _ (fun k hk' y H2 r2 e2 a2 => ?_) (fun _ z => ex_out' z) hd')⟩
      obtain ⟨key, ek, hl, q⟩ := hk'
      obtain ⟨v', h1', b', vs', e', h3', h4', h5', h6'⟩ := r2.slot i _ hd
      rw [h1] at h1'
      cases h1'
      cases e'
      obtain ⟨kb, rfl, hkb⟩ := keyT_da a2 ek
      obtain ⟨p1, p2⟩ := put_da (k := key) (a1.ext e2) h5' h6'
      refine ⟨_, _, rfl, DPut.t h4' (hide_some hkb).2 (by rw [length_of_map h5']; exact hl), ?_⟩
      exact q σ _ G.O (r2.wrO hd rfl h1 h3' h4' (.inr (.inr ⟨_, rfl⟩)) (fun ps z => by cases z) rfl (fun H3 eh hb => ⟨_, _, rfl, h3', hb, p1, by rw [eh]; exact p2⟩) fun q hq z => fa q hq i _ hd rfl (by rw [z]; exact h1)) (fa.wr hd rfl)
    · rename_i ad kvs hd
      refine ⟨G, ρ, r, h.mono _ _ _ _ _ (fun d hd' v H1 r1 a1 => ?_) (fun _ z => ex_out' z) q⟩
      obtain ⟨u, h1, rfl, h3, o, h4, vs, rfl, h5, h6⟩ := r1.slot i _ hd
      refine ⟨_, h1, lift_intro hk.mono r1 (hk.mono _ _ _ _ _ (fun k hk' y H2 r2 e2 a2 => ?_) (fun _ z => ex_out' z) hd')⟩
      obtain ⟨key, ek, hl, q⟩ := hk'
      obtain ⟨v', h1', e', h3', o', h4', vs', rfl, h5', h6'⟩ := r2.slot i _ hd
      obtain ⟨kb, rfl, hkb⟩ := keyT_da a2 ek
      obtain ⟨p1, p2⟩ := put_da (k := key) (a1.ext e2) h5' h6'
      refine ⟨_, _, rfl, DPut.t h4' (hide_some hkb).2 (by rw [length_of_map h5']; exact hl), ?_⟩
      exact q σ _ G.O (r2.wrO hd rfl h1 h3' h4' (.inr (.inr ⟨_, rfl⟩)) (fun ps z => by cases z) rfl (fun H3 eh hb => ⟨rfl, h3', _, hb, _, rfl, p1, by rw [eh]; exact p2⟩) fun q hq z => fa q hq i _ hd rfl (by rw [z]; exact h1)) (fa.wr hd rfl)
    · exact q.elim, fun ρ D D' l q => by
    unfold sPut at q ⊢
    split at q
    · exact h.mono _ _ _ _ _ (fun d hd => hk.mono _ _ _ _ _ (fun k ⟨key, h1, h2, h3⟩ => ⟨key, h1, h2, l.nx _ h3⟩) l.ex hd) l.ex q
    · exact h.mono _ _ _ _ _ (fun d hd => hk.mono _ _ _ _ _ (fun k ⟨key, h1, h2, h3⟩ => ⟨key, h1, h2, l.nx _ h3⟩) l.ex hd) l.ex q
    · exact h.mono _ _ _ _ _ (fun d hd => hk.mono _ _ _ _ _ (fun k ⟨key, h1, h2, h3⟩ => ⟨key, h1, h2, l.nx _ h3⟩) l.ex hd) l.ex q
    · exact q⟩
end
end PL
set_option Elab.async false
set_option linter.all false
set_option maxRecDepth 100000
set_option maxHeartbeats 2000000
namespace PL
open PySem PySem.Spec PyProof.Rows L2
open LamX (ExtN Tabs TabS)
section
variable {T : Tb} {X : Cx} {W : WX} {pos p pos' apos cpos : Pos} {e a b c f : Expr} {es : List Expr} {st : Stmt} {K : PySem.W.Frag} {G G2 : Gh} {ρ ρ2 : En} {σ σ2 : L2.St} {H H' : Hp} {D : Ends}
def parseK : List (PyData × PyData) → Option (List (Key × PyData))
  | [] => some []
  | p :: r => match keyOf p.1, parseK r with
    | some k, some ks => some ((k, p.2) :: ks)
    | _, _ => none
def parseT : List (PyData × PyData) → Option (List (List Key × PyData))
  | [] => some []
  | p :: r => match keyT p.1, parseT r with
    | some k, some ks => some ((k, p.2) :: ks)
    | _, _ => none
theorem keyOf_keyD (k : Key) : keyOf (keyD k) = some k := by cases k <;> rfl
theorem keysOf_map : ∀ k : List Key, keysOf (k.map keyD) = some k
  | [] => rfl
  | x :: r => by rw [List.map_cons, keysOf, keyOf_keyD, keysOf_map r]
theorem keyT_keyD (k : List Key) : keyT (.tuple (k.map keyD)) = some k := keysOf_map k
theorem keyT_K (k : Key) : keyT (keyD k) = none := by cases k <;> rfl
theorem keyOf_T (ds : List PyData) : keyOf (.tuple ds) = none := rfl
theorem parseK_map : ∀ kvs : List (Key × PyData), parseK (kvs.map fun p => (keyD p.1, p.2)) = some kvs
  | [] => rfl
  | p :: r => by rw [List.map_cons, parseK, keyOf_keyD, parseK_map r]
theorem parseT_map : ∀ kvs : List (List Key × PyData), parseT (kvs.map fun p => (.tuple (p.1.map keyD), p.2)) = some kvs
  | [] => rfl
  | p :: r => by rw [List.map_cons, parseT, keyT_keyD, parseT_map r]
def mtK (d : PyData) (x : Option (Option PyData)) : Option (Option PyData) := match d with
  | .none => some none
  | _ => x
theorem mtK_key (k : Key) (x : Option (Option PyData)) : mtK (keyD k) x = x := by cases k <;> rfl
def atDc (ps : List (PyData × PyData)) (k : PyData) : Option (Option PyData) := match keyOf k with
  | some key => (parseK ps).map fun kvs => lookK kvs key
  | none => match keyTn k, ps with
    | some key, q :: r => mtK q.1 ((parseT (q :: r)).map fun kvs => lookK kvs key)
    | _, _ => none
def atSl (s : Sl) (k : PyData) : Option (Option PyData) := match s with
  | .ok kvs => (keyOf k).map fun key => lookK kvs key
  | .sk kvs => (keyOf k).map fun key => lookK kvs key
  | .ot kvs => (keyTn k).map fun key => lookK kvs key
  | .ln _ (.t kvs) => (keyTn k).map fun key => lookK kvs key
  | .sh (.dict ps) => atDc ps k
  | _ => none
theorem zip_split {α : Type} {f : α → PyData} : ∀ {vs : List (α × V)} {ds : List PyData}, DaAll K H (vs.map (·.2)) ds → ∃ kvs : List (α × PyData), vs.map (·.1) = kvs.map (·.1) ∧ DaAll K H (vs.map (·.2)) (kvs.map (·.2)) ∧ (vs.map fun p => f p.1).zip ds = kvs.map fun p => (f p.1, p.2)
  | [], _, .nil => ⟨[], rfl, .nil, rfl⟩
  | p :: r, _, .cons (d := d) h t => by
    obtain ⟨kvs, h1, h2, h3⟩ := zip_split (f := f) (vs := r) t
    exact ⟨(p.1, d) :: kvs, by simp [h1], .cons h h2, by simp [h3]⟩
/-- d[k], as the machine has it -/
def Found (K : PySem.W.Frag) (O : List Addr) (H : Hp) (o : Option PyData) (o' : Option V) : Prop := match o, o' with
  | none, none => True
  | some d, some v => Da K (hide O H) v d
  | _, _ => False
theorem found_look {κ : Type} [DecidableEq κ] {O : List Addr} {k : κ} {vs : List (κ × V)} {kvs : List (κ × PyData)} (e : vs.map (·.1) = kvs.map (·.1)) (h : DaAll K (hide O H) (vs.map (·.2)) (kvs.map (·.2))) : Found K O H (lookK kvs k) (valV vs k) := by
  rcases look_da (k := k) e h with ⟨v, d, h1, h2, h3⟩ | ⟨h1, h2⟩
  · rw [h1, h2]; exact h3
  · rw [h1, h2]; trivial
theorem dc_get {O : List Addr} {v y : V} {ps : List (PyData × PyData)} {k : PyData} {o : Option PyData} (h : Da K (hide O H) v (.dict ps)) (hy : Da K (hide O H) y k) (ho : atDc ps k = some o) : ∃ a o', v = .ref a ∧ IsD H a ∧ DGet H a y o' ∧ Found K O H o o' := by
  unfold atDc at ho
  cases h with
  | dk h1 h2 =>
    obtain ⟨kvs, e1, e2, e3⟩ := zip_split (f := keyD) h2
    rw [e3, parseK_map] at ho
    cases ek : keyOf k with
    | some key =>
      rw [ek] at ho
      cases ho
      rw [keyOf_da hy ek]
      exact ⟨_, _, rfl, .inl ⟨_, .inl (hide_some h1).2⟩, DGet.k (hide_some h1).2, found_look e1 e2⟩
    | none =>
      rw [ek] at ho
      exfalso
      cases et : keyTn k with
      | none => rw [et] at ho; cases ho
      | some key =>
        rw [et] at ho
        cases kvs with
        | nil => cases ho
        | cons q r =>
          simp only [List.map_cons, parseT, keyT_K, mtK_key] at ho
          cases ho
  | dte h1 =>
    cases ek : keyOf k with
    | some key =>
      rw [ek] at ho
      simp [parseK, keyOf] at ho
    | none =>
      rw [ek] at ho
      cases et : keyTn k with
      | none => rw [et] at ho; cases ho
      | some key =>
        rw [et] at ho
        cases ho
        obtain ⟨kb, rfl, hkb⟩ := keyT_da hy et
        exact ⟨_, _, rfl, .inr ⟨_, .inl (hide_some h1).2⟩, DGet.t (hide_some h1).2 (hide_some hkb).2, found_look (k := key) (vs := []) (kvs := []) rfl .nil⟩
  | ob h1 =>
    cases ek : keyOf k with
    | some key =>
      rw [ek] at ho
      simp [parseK, keyOf] at ho
    | none =>
      rw [ek] at ho
      cases et : keyTn k with
      | none => rw [et] at ho; cases ho
      | some key =>
        rw [et] at ho
        simp [parseT, keyT, mtK] at ho
  | dt h1 hne h2 =>
    obtain ⟨kvs, e1, e2, e3⟩ := zip_split (f := fun k => .tuple (k.map keyD)) h2
    rw [e3] at ho
    have ep := parseT_map kvs
    cases kvs with
    | nil =>
      exfalso
      have := length_of_map e1
      exact hne (List.length_eq_zero_iff.mp this)
    | cons q r =>
      rw [List.map_cons] at ep
      simp only [List.map_cons, ep] at ho
      cases ek : keyOf k with
      | some key =>
        rw [ek] at ho
        simp only [parseK, keyOf_T] at ho
        cases ho
      | none =>
        rw [ek] at ho
        cases et : keyTn k with
        | none => rw [et] at ho; cases ho
        | some key =>
          rw [et] at ho
          have ho : (parseT ((.tuple (q.1.map keyD), q.2) :: r.map fun p => (.tuple (p.1.map keyD), p.2))).map (fun kvs => lookK kvs key) = some o := ho
          rw [ep] at ho
          cases ho
          obtain ⟨kb, rfl, hkb⟩ := keyT_da hy et
          exact ⟨_, _, rfl, .inr ⟨_, .inl (hide_some h1).2⟩, DGet.t (hide_some h1).2 (hide_some hkb).2, found_look e1 e2⟩
/-- as dc_get, in a slot -/
theorem sl_get {D0 O : List Addr} {s : Sl} {u : Option V} {y : V} {k : PyData} {o : Option PyData} (h : SlOk K D0 O H s u) (hy : Da K (hide O H) y k) (ho : atSl s k = some o) : ∃ a o', u = some (.ref a) ∧ IsD H a ∧ DGet H a y o' ∧ Found K O H o o' := by
  unfold atSl at ho
  cases s with
  | ok kvs =>
    obtain ⟨a, vs, rfl, h2, h3, h4, h5⟩ := h
    cases ek : keyOf k with
    | none => rw [ek] at ho; cases ho
    | some key =>
      rw [ek] at ho
      cases ho
      rw [keyOf_da hy ek]
      exact ⟨_, _, rfl, .inl ⟨_, .inl h3⟩, DGet.k h3, found_look h4 h5⟩
  | sk kvs =>
    obtain ⟨x, rfl, a, ob, vs, rfl, h3, h4, h5⟩ := h
    have h3 := (hide_some h3).2
    cases ek : keyOf k with
    | none => rw [ek] at ho; cases ho
    | some key =>
      rw [ek] at ho
      cases ho
      rw [keyOf_da hy ek]
      exact ⟨_, _, rfl, .inl ⟨_, .inr ⟨ob, h3⟩⟩, .inl ⟨vs, key, .inr ⟨ob, h3⟩, rfl, rfl⟩, found_look h4 h5⟩
  | ot kvs =>
    obtain ⟨a, vs, rfl, h2, h3, h4, h5⟩ := h
    cases ek : keyTn k with
    | none => rw [ek] at ho; cases ho
    | some key =>
      rw [ek] at ho
      cases ho
      obtain ⟨kb, rfl, hkb⟩ := keyT_da hy ek
      exact ⟨_, _, rfl, .inr ⟨_, .inl h3⟩, DGet.t h3 (hide_some hkb).2, found_look h4 h5⟩
  | ln a l =>
    obtain ⟨rfl, h2, o', h3, hl⟩ := h
    cases l with
    | l ds => cases ho
    | t kvs =>
      obtain ⟨vs, rfl, h4, h5⟩ := hl
      cases ek : keyTn k with
      | none => simp only [ek] at ho; cases ho
      | some key =>
        simp only [ek] at ho
        cases ho
        obtain ⟨kb, rfl, hkb⟩ := keyT_da hy ek
        exact ⟨_, _, rfl, .inr ⟨_, .inl h3⟩, DGet.t h3 (hide_some hkb).2, found_look h4 h5⟩
  | sh d =>
    obtain ⟨x, rfl, h2⟩ := h
    cases d with
    | dict ps =>
      obtain ⟨a, o', rfl, h3, h4, h5⟩ := dc_get h2 hy ho
      exact ⟨a, o', rfl, h3, h4, h5⟩
    | _ => cases ho
  | _ => cases ho
def dIn (neg : Bool) (o : Option (Option PyData)) (Q : PyData → Prop) : Prop := match o with
  | some o => Q (.bool (if neg then !o.isSome else o.isSome))
  | none => False
def Sl.isD : Sl → Bool
  | .ok _ => true
  | .ot _ => true
  | .ln _ (.t _) => true
  | .sh (.dict _) => true
  | .sk _ => true
  | _ => false
def wDs (i : Nat) (F : Sl → PW) : PW := fun ρ Q E => match ρ[i]? with
  | some (.ok kvs) => F (.ok kvs) ρ Q E
  | some (.ot kvs) => F (.ot kvs) ρ Q E
  | some (.sh (.dict ps)) => F (.sh (.dict ps)) ρ Q E
  | some (.ln a (.t kvs)) => F (.ln a (.t kvs)) ρ Q E
  | some (.sk kvs) => F (.sk kvs) ρ Q E
  | _ => False
theorem wDs_elim {i : Nat} {F : Sl → PW} {Q : PyData → Prop} {E : Exn → Prop} (h : wDs i F ρ Q E) : ∃ s, ρ[i]? = some s ∧ s.isD = true ∧ F s ρ Q E := by
  unfold wDs at h
  split at h
  · exact ⟨_, by assumption, rfl, h⟩
  · exact ⟨_, by assumption, rfl, h⟩
  · exact ⟨_, by assumption, rfl, h⟩
  · exact ⟨_, by assumption, rfl, h⟩
  · exact ⟨_, by assumption, rfl, h⟩
  · exact h.elim
theorem mono_Ds {i : Nat} {F : Sl → PW} (m : ∀ s, Mono (F s)) : Mono (wDs i F) := fun ρ Q Q' E E' hq he h => by
  unfold wDs at h ⊢
  split at h
  · exact m _ _ _ _ _ _ hq he h
  · exact m _ _ _ _ _ _ hq he h
  · exact m _ _ _ _ _ _ hq he h
  · exact m _ _ _ _ _ _ hq he h
  · exact m _ _ _ _ _ _ hq he h
  · exact h
def wDIn (neg : Bool) (i : Nat) (wk : PW) : PW := wDs i fun s ρ Q E => wk ρ (fun k => dIn neg (atSl s k) Q) E
theorem mono_dIn {neg : Bool} {o : Option (Option PyData)} {Q Q' : PyData → Prop} (hq : ∀ d, Q d → Q' d) (h : dIn neg o Q) : dIn neg o Q' := by
  unfold dIn at h ⊢
  split at h
  · exact hq _ h
  · exact h
theorem slot_v {i : Nat} {s : Sl} (r : Rep T K G ρ σ H) (hd : ρ[i]? = some s) (hs : s.isD = true) : ∃ v, σ[i]? = some (some v) ∧ SlOk K T.dc G.O H s (some v) := by
  obtain ⟨u, h1, h2⟩ := r.slot i s hd
  cases s with
  | ok _ => have h2' := h2; obtain ⟨a, _, rfl, _⟩ := h2'; exact ⟨_, h1, h2⟩
  | ot _ => have h2' := h2; obtain ⟨a, _, rfl, _⟩ := h2'; exact ⟨_, h1, h2⟩
  | ln _ _ => have h2' := h2; obtain ⟨rfl, _⟩ := h2'; exact ⟨_, h1, h2⟩
  | sh _ => have h2' := h2; obtain ⟨a, rfl, _⟩ := h2'; exact ⟨_, h1, h2⟩
  | sk _ => have h2' := h2; obtain ⟨a, rfl, _⟩ := h2'; exact ⟨_, h1, h2⟩
  | _ => cases hs
end
end PL
set_option Elab.async false
set_option linter.all false
set_option maxRecDepth 100000
set_option maxHeartbeats 2000000
namespace PL
open PySem PySem.Spec PyProof.Rows L2
open LamX (ExtN Tabs TabS)
section
variable {T : Tb} {X : Cx} {W : WX} {pos p pos' apos cpos : Pos} {e a b c f : Expr} {es : List Expr} {st : Stmt} {K : PySem.W.Frag} {G G2 : Gh} {ρ ρ2 : En} {σ σ2 : L2.St} {H H' : Hp} {D : Ends}
inductive AllB (D0 : List Addr) (K : PySem.W.Frag) (ρ : En) (σ : L2.St) (O0 O : List Addr) (H : Hp) : List V → List Sl → Prop
  | nil : AllB D0 K ρ σ O0 O H [] []
  | cons {v : V} {vs : List V} {s : Sl} {ss : List Sl} : SlOk K D0 O H s (some v) → (s.owned = true → ∃ a, v = .ref a ∧ Apt ρ σ a ∧ a ∉ O0 ∧ ∀ (j : Nat) (t : Sl), ss[j]? = some t → t.owned = true → vs[j]? ≠ some (.ref a)) → AllB D0 K ρ σ O0 O H vs ss → AllB D0 K ρ σ O0 O H (v :: vs) (s :: ss)
def liftBs (T : Tb) (K : PySem.W.Frag) (W : WX) (w : PWp) : TA := fun σ H Q => ∃ G ρ, Rep T K G ρ σ H ∧ w ρ (fun ss => ∀ vs O' H', Rep T K ⟨G.Hb, O', G.fl⟩ ρ σ H' → (∀ b ∈ G.O, b ∈ O') → AllB T.dc K ρ σ G.O O' H' vs ss → Q vs H') (exOut T K W G ρ σ)
structure DB (T : Tb) (X : Cx) (W : WX) (es : List Expr) (w : PWp) : Prop where
  pa : PA X es (liftBs T X.K W w)
  mono : Mono w
theorem AllB.length {D0 O0 O : List Addr} : ∀ {vs : List V} {ss : List Sl}, AllB D0 K ρ σ O0 O H vs ss → vs.length = ss.length
  | _, _, .nil => rfl
  | _, _, .cons _ _ r => congrArg (· + 1) (AllB.length r)
theorem AllB.sub {D0 O0 O1 O : List Addr} (h : ∀ b ∈ O0, b ∈ O1) : ∀ {vs : List V} {ss : List Sl}, AllB D0 K ρ σ O1 O H vs ss → AllB D0 K ρ σ O0 O H vs ss
  | _, _, .nil => .nil
  | _, _, .cons h1 h2 r => .cons h1 (fun z => by obtain ⟨a, e, h3, h4, h5⟩ := h2 z; exact ⟨a, e, h3, fun y => h4 (h a y), h5⟩) (AllB.sub h r)
theorem AllB.get_own {D0 O0 O : List Addr} : ∀ {vs : List V} {ss : List Sl} {j : Nat} {t : Sl} {a : Addr}, AllB D0 K ρ σ O0 O H vs ss → ss[j]? = some t → t.owned = true → vs[j]? = some (.ref a) → a ∉ O0
  | _, _, 0, t, a, .cons h1 h2 r, e, ht, hv => by
    simp at e hv
    subst e; subst hv
    obtain ⟨b, e, _, h, _⟩ := h2 ht
    cases e
    exact h
  | _, _, j + 1, t, a, .cons h1 h2 r, e, ht, hv => AllB.get_own (j := j) r (by simpa using e) ht (by simpa using hv)
theorem AllB.ext {D0 O0 O : List Addr} (e : ExtN (hide O H) (hide O H')) (ho : ∀ a ∈ O, a ∉ D0 → H' a = H a) : ∀ {vs : List V} {ss : List Sl}, AllB D0 K ρ σ O0 O H vs ss → AllB D0 K ρ σ O0 O H' vs ss
  | _, _, .nil => .nil
  | _, _, .cons h1 h2 r => .cons (h1.ext e ho) h2 (AllB.ext e ho r)
theorem liftBs_intro {w : PWp} {R : List V → Hp → Prop} (m : Mono w) (r : Rep T K G ρ σ H)
    (h : w ρ (fun ss => ∀ vs O' H', Rep T K ⟨G.Hb, O', G.fl⟩ ρ σ H' → ExtN (hide G.O H) (hide O' H') → (∀ b ∈ G.O, b ∈ O') → AllB T.dc K ρ σ G.O O' H' vs ss → R vs H') (exOut T K W G ρ σ)) : liftBs T K W w σ H R :=
  ⟨⟨hide G.O H, G.O, G.fl⟩, ρ, r.rebase, m _ _ _ _ _ (fun d hd vs O' H' r' s a => hd vs O' H' (r'.unbase (G := ⟨G.Hb, O', G.fl⟩) r.ext) r'.ext s a) (fun x hx H' cls dd r' q => hx H' cls dd (r'.unbase r.ext) q) h⟩
theorem ExR.ext {x : Exn} {cls : Value} {dd : Option Addr} (h : ExR K x cls dd H) (e : ExtN H H') : ExR K x cls dd H' := by
  refine ⟨h.1, ?_⟩
  have h2 := h.2
  split at h2
  · exact h2
  · obtain ⟨a, v, h3, h4, h5⟩ := h2
    exact ⟨a, v, h3, e _ _ h4 (fun ps z => by cases z), h5.ext e⟩
def wbOl (w : PW) (ws : PWp) : PWp := fun ρ Q E => w ρ (fun d => match d with | .list ds => ws ρ (fun ss => Q (.ol ds :: ss)) E | _ => False) E
def wbDk (ws : PWp) : PWp := fun ρ Q E => ws ρ (fun ss => Q (.ok [] :: ss)) E
theorem db_nil : DB T X W [] wpNil := ⟨⟨fun p pins s σ H Q I h => pa_nil.run p pins s σ H Q I (by
  obtain ⟨G, ρ, r, q⟩ := h
  exact q [] G.O H r (fun _ z => z) .nil)⟩, fun _ _ _ _ _ hq _ h => hq _ h⟩
theorem db_sh {w : PW} {ws : PWp} (ha : DE T X W e w) (hr : DB T X W es ws) (hs : starEach (e :: es) X.env = (false, eval e X.env) :: starEach es X.env := by rfl) : DB T X W (e :: es) (wpSh w ws) :=
  ⟨⟨fun p pins s σ H Q I h => (pa_cons ha.pe hr.pa hs).run p pins s σ H Q I (by
    obtain ⟨G, ρ, r, q⟩ := h
    refine lift_intro ha.mono r (ha.mono _ _ _ _ _ (fun d hd v H1 r1 e1 a1 => ?_) (fun _ z => z) q)
    refine liftBs_intro hr.mono r1 (hr.mono _ _ _ _ _ (fun ss hss vs O' H2 r2 e2 s2 a2 => ?_) (fun _ z => z) hd)
    exact hss _ O' H2 r2 s2 (.cons ⟨v, rfl, a1.ext e2⟩ (fun z => by cases z) a2))⟩, fun ρ Q Q' E E' hq he h => ha.mono _ _ _ _ _ (fun d hd => hr.mono _ _ _ _ _ (fun ss hss => hq _ hss) he hd) he h⟩
/-- what is ours stands in flight while the rest is asked -/
theorem own_rest {ws : PWp} {s0 : Sl} {o : HO} {p0 : Addr} {Q : List V → Hp → Prop} (mr : Mono ws) (r : Rep T K G ρ σ H) (r1 : Rep T K ⟨G.Hb, p0 :: G.O, G.fl⟩ ρ σ H') (na : p0 ∉ G.O) (ap : Apt ρ σ p0) (hp : H' p0 = some o)
    (ho : s0.owned = true) (hs : ∀ O' H2, ExtN (hide (p0 :: G.O) H') (hide O' H2) → Own T.dc O' p0 → H2 p0 = some o → SlOk K T.dc O' H2 s0 (some (.ref p0)))
    (h : ws ρ (fun ss => ∀ vs O' H', Rep T K ⟨G.Hb, O', G.fl⟩ ρ σ H' → (∀ b ∈ G.O, b ∈ O') → AllB T.dc K ρ σ G.O O' H' vs (s0 :: ss) → Q vs H') (exOut T K W G ρ σ)) :
    liftBs T K W ws σ H' fun vs H2 => Q (.ref p0 :: vs) H2 := by
  have nd : p0 ∉ T.dc := fun z => na (r.dcs p0 z).1
  refine liftBs_intro (G := ⟨G.Hb, p0 :: G.O, (p0, o) :: G.fl⟩) mr (r1.fly1 List.mem_cons_self hp nd) (mr _ _ _ _ _ (fun ss hss vs O' H2 r2 e2 s2 a2 => ?_) (fun x hx H2 cls dd r2 q => ?_) h)
  · obtain ⟨r2', k⟩ := r2.land
    have ow : Own T.dc O' p0 := ⟨s2 p0 List.mem_cons_self, nd⟩
    refine hss _ O' H2 r2' (fun b hb => s2 b (List.mem_cons_of_mem _ hb)) (.cons (hs O' H2 e2 ow k) (fun _ => ⟨p0, rfl, ap, na, fun j t hj ht z => ?_⟩) (a2.sub fun b hb => List.mem_cons_of_mem _ hb))
    exact a2.get_own hj ht z List.mem_cons_self
  · have r3 := r2.land.1
    exact hx H2 cls dd (r.drop r3 ap) (q.ext (ext_sub fun b hb => List.mem_cons_of_mem _ hb))
theorem db_ol {w : PW} {ws : PWp} (ha : DF T X W e w) (hr : DB T X W es ws) (hs : starEach (e :: es) X.env = (false, eval e X.env) :: starEach es X.env := by rfl) : DB T X W (e :: es) (wbOl w ws) :=
  ⟨⟨fun p pins s σ H Q I h => (pa_cons ha.pe hr.pa hs).run p pins s σ H Q I (by
    obtain ⟨G, ρ, r, q⟩ := h
    refine liftF_intro ha.mono r (ha.mono _ _ _ _ _ (fun d hd a vs ds H1 ed r1 e1 na ap h1 h2 => ?_) (fun _ z => z) q)
    subst ed
    exact own_rest (s0 := .ol ds) hr.mono r r1 na ap h1 rfl (fun O' H2 e2 ow k => ⟨a, vs, rfl, ow, k, h2.ext e2⟩) hd)⟩, fun ρ Q Q' E E' hq he h => ha.mono _ _ _ _ _ (fun d hd => by
      cases d <;> first | exact hr.mono _ _ _ _ _ (fun ss hss => hq _ hss) he hd | exact hd) he h⟩
theorem db_dk {ws : PWp} (hr : DB T X W es ws) (hs : starEach (.Dict [] [] pos :: es) X.env = (false, eval (.Dict [] [] pos) X.env) :: starEach es X.env := by rfl) : DB T X W (.Dict [] [] pos :: es) (wbDk ws) :=
  ⟨⟨fun p pins s σ H Q I h => (pa_cons pe_dnewK hr.pa hs).run p pins s σ H Q I (fun p0 hp => by
    obtain ⟨G, ρ, r, q⟩ := h
    obtain ⟨r1, eh, na, ap⟩ := r.own (o := .dK []) hp (fun ps z => by cases z)
    exact own_rest (s0 := .ok []) hr.mono r r1 na ap upd_same rfl (fun O' H2 e2 ow k => ⟨p0, [], rfl, ow, k, rfl, .nil⟩) q)⟩, fun ρ Q Q' E E' hq he h => hr.mono _ _ _ _ _ (fun ss hss => hq _ hss) he h⟩
def setE : En → List Nat → List Sl → En
  | ρ, i :: is, s :: ss => setE (ρ.set i s) is ss
  | ρ, _, _ => ρ
def setV : L2.St → List Nat → List V → L2.St
  | σ, i :: is, v :: vs => setV (σ.set i (some v)) is vs
  | σ, _, _ => σ
theorem Apt.setSl {i : Nat} {s : Sl} {v : V} {b : Addr} (h : Apt ρ σ b) (hv : s.owned = true → v ≠ .ref b) : Apt (ρ.set i s) (σ.set i (some v)) b := fun j t hj ht e => by
  by_cases z : i = j
  · subst z
    by_cases hl : i < ρ.length
    · rw [List.getElem?_set_self hl] at hj
      cases hj
      by_cases hl2 : i < σ.length
      · rw [List.getElem?_set_self hl2] at e
        cases e
        exact hv ht rfl
      · rw [List.getElem?_eq_none (by rw [List.length_set]; omega)] at e; cases e
    · rw [List.getElem?_eq_none (by rw [List.length_set]; omega)] at hj; cases hj
  · rw [List.getElem?_set_ne z] at hj e
    exact h j t hj ht e
theorem AllB.setSl {D0 O0 O : List Addr} {i : Nat} {s : Sl} {v : V} : ∀ {vs : List V} {ss : List Sl}, AllB D0 K ρ σ O0 O H vs ss → (s.owned = true → ∃ a, v = .ref a ∧ ∀ (j : Nat) (t : Sl), ss[j]? = some t → t.owned = true → vs[j]? ≠ some (.ref a)) → AllB D0 K (ρ.set i s) (σ.set i (some v)) O0 O H vs ss
  | _, _, .nil, _ => .nil
  | _, _, .cons h1 h2 r, h => .cons h1 (fun z => by
      obtain ⟨b, e, h3, h4, h5⟩ := h2 z
      refine ⟨b, e, h3.setSl fun z2 e2 => ?_, h4, h5⟩
      obtain ⟨a, e3, h6⟩ := h z2
      rw [e3] at e2
      cases e2
      exact h6 0 _ rfl z (by rw [e]; rfl)) (AllB.setSl r fun z => by
      obtain ⟨a, e3, h6⟩ := h z
      exact ⟨a, e3, fun j t hj ht => h6 (j + 1) t (by simpa using hj) ht⟩)
theorem Rep.setAll {O0 : List Addr} : ∀ {is : List Nat} {vs : List V} {ss : List Sl} {ρ : En} {σ : L2.St}, AllB T.dc K ρ σ O0 G.O H vs ss → Rep T K G ρ σ H → FlApt G.fl ρ σ → (∀ q ∈ G.fl, q.1 ∈ O0) → Rep T K G (setE ρ is ss) (setV σ is vs) H ∧ FlApt G.fl (setE ρ is ss) (setV σ is vs)
  | [], vs, ss, ρ, σ, h, r, fa, hf => by cases h <;> exact ⟨r, fa⟩
  | i :: is, _, _, ρ, σ, .nil, r, fa, hf => ⟨r, fa⟩
  | i :: is, _, _, ρ, σ, .cons (v := v) (vs := vs) (s := s) (ss := ss) h1 h2 h3, r, fa, hf => by
    show Rep T K G (setE (ρ.set i s) is ss) (setV (σ.set i (some v)) is vs) H ∧ FlApt G.fl (setE (ρ.set i s) is ss) (setV (σ.set i (some v)) is vs)
    refine Rep.setAll (is := is) (h3.setSl fun z => by obtain ⟨a, e, _, _, h5⟩ := h2 z; exact ⟨a, e, h5⟩) (r.setSl h1 fun z b eb j t hj hjt ht => ?_) (fa.setSl fun z q hq e => ?_) hf
    · obtain ⟨a, e, ap, _, _⟩ := h2 z
      rw [eb] at e
      cases e
      exact ap j t hjt ht
    · obtain ⟨a, e', _, h4, _⟩ := h2 z
      rw [e'] at e
      cases e
      exact h4 (hf q hq)
def sParN (is : List Nat) (w : PWp) : SW := fun ρ D => w ρ (fun ss => ss.length = is.length ∧ D.nx (setE ρ is ss)) D.ex
theorem mono_ParN {is : List Nat} {w : PWp} (m : Mono w) : MonoS (sParN is w) := fun ρ D D' l q => m _ _ _ _ _ (fun ss hs => ⟨hs.1, l.nx _ hs.2⟩) l.ex q
theorem parN_imp {is : List Nat} {w : PWp} {R : List V → Hp → Prop} (m : Mono w) (q : liftS T K W (sParN is w) D σ H) (h : ∀ vs H', vs.length = is.length → D.nx (setV σ is vs) H' → R vs H') : liftBs T K W w σ H R := by
  obtain ⟨G, ρ, r, fa, q⟩ := q
  refine ⟨G, ρ, r, m _ _ _ _ _ (fun ss hs vs O' H1 r1 sb a1 => ?_) (fun _ z => ex_out' z) q⟩
  obtain ⟨r2, fa2⟩ := Rep.setAll (G := ⟨G.Hb, O', G.fl⟩) (is := is) a1 r1 fa (fun q hq => (r.fly q hq).1)
  exact h vs H1 (a1.length.trans hs.1) (hs.2 _ H1 O' r2 fa2)
theorem ds_par2 {i j : Nat} {x y : Str} {px py pt : Pos} {kt k2 pt2} {w : PWp} (hc : X.calm = true) (hN : X.N.Nodup) (hi : X.N[i]? = some x) (hj : X.N[j]? = some y) (hij : i ≠ j)
    (hx : X.env.scope.names.lookup x = some .local) (hy : X.env.scope.names.lookup y = some .local) (ha : DB T X W [a, b] w)
    (hw : swappedStores [.Tuple [.Name x px, .Name y py] kt pt] (.Tuple [a, b] k2 pt2) X.env = pure (some [x, y]))
    (hs : swapsWithSole [.Tuple [.Name x px, .Name y py] kt pt] (.Tuple [a, b] k2 pt2) pos.line X.env = pure false := by rfl) : DS T X W (.Assign [.Tuple [.Name x px, .Name y py] kt pt] (.Tuple [a, b] k2 pt2) pos) (sParN [i, j] w) :=
  ⟨ps_mono (ps_par hc hN hi hj hij hx hy ha.pa hw hs) fun D σ H q => parN_imp ha.mono q fun vs H' hl hn => by
    match vs, hl with
    | [v, u], _ => exact ⟨v, u, rfl, hn⟩, mono_ParN ha.mono⟩
theorem ds_par3 {i j l : Nat} {x y z : Str} {px py pz pt : Pos} {kt k2 pt2} {w : PWp} (hc : X.calm = true) (hN : X.N.Nodup) (hi : X.N[i]? = some x) (hj : X.N[j]? = some y) (hl : X.N[l]? = some z) (hij : i ≠ j) (hil : i ≠ l) (hjl : j ≠ l)
    (hx : X.env.scope.names.lookup x = some .local) (hy : X.env.scope.names.lookup y = some .local) (hz : X.env.scope.names.lookup z = some .local) (ha : DB T X W [a, b, c] w)
    (hw : swappedStores [.Tuple [.Name x px, .Name y py, .Name z pz] kt pt] (.Tuple [a, b, c] k2 pt2) X.env = pure (some [x, y, z]))
    (hs : swapsWithSole [.Tuple [.Name x px, .Name y py, .Name z pz] kt pt] (.Tuple [a, b, c] k2 pt2) pos.line X.env = pure false := by rfl) : DS T X W (.Assign [.Tuple [.Name x px, .Name y py, .Name z pz] kt pt] (.Tuple [a, b, c] k2 pt2) pos) (sParN [i, j, l] w) :=
  ⟨ps_mono (ps_par3 hc hN hi hj hl hij hil hjl hx hy hz ha.pa hw hs) fun D σ H q => parN_imp ha.mono q fun vs H' hl hn => by
    match vs, hl with
    | [v, u, t], _ => exact ⟨v, u, t, rfl, hn⟩, mono_ParN ha.mono⟩
/-- targets that are names, in order -/
inductive TNames (X : Cx) : List Expr → List Nat → TGs → Prop
  | nil : TNames X [] [] gNil
  | cons {e : Expr} {es : List Expr} {i : Nat} {is : List Nat} {t : TGs} : TNames X es is t → TNames X (e :: es) (i :: is) (gCons (gName i) t)
theorem tnames_set {is : List Nat} {t : TGs} {ts : List Expr} (h : TNames X ts is t) : ∀ {vs : List V} {σ : L2.St} {H : Hp} {R : L2.St → Hp → Prop}, vs.length = is.length → R (setV σ is vs) H → t vs σ H R := by
  induction h with
  | nil => intro vs σ H R hl hr; cases vs with
    | nil => exact ⟨rfl, hr⟩
    | cons _ _ => cases hl
  | cons h ih => intro vs σ H R hl hr; cases vs with
    | nil => cases hl
    | cons v r => exact ⟨v, r, rfl, ih (Nat.succ.inj hl) hr⟩
theorem ds_parT {ts : List Expr} {is : List Nat} {t : TGs} {n k k2 : Nat} {pt pt2 : Pos} {w : PWp} (hc : X.calm = true) (ha : DB T X W es w) (hg : PGs X ts t) (ht : TNames X ts is t) (hn : (assignEach ts X.env).length = n := by rfl) (hst : (assignEach ts X.env).findIdx? (·.1) = none := by rfl) (hni : is.length = n := by rfl)
    (hz : n ≤ sizeLine := by rw [sizeLine_eq]; decide) (hs : swapsWithSole [.Tuple ts k pt] (.Tuple es k2 pt2) pos.line X.env = pure false := by rfl) (hw : swappedStores [.Tuple ts k pt] (.Tuple es k2 pt2) X.env = pure none := by rfl)
    (h1 : (assignEach [.Tuple ts k pt] X.env).map (·.2) = [assign (.Tuple ts k pt) X.env] := by rfl) : DS T X W (.Assign [.Tuple ts k pt] (.Tuple es k2 pt2) pos) (sParN is w) :=
  ⟨ps_mono (ps_asg (pe_tup ha.pa) (pg_tup hc hg hn hst) hs hw h1) fun D σ H q => by
    obtain ⟨G, ρ, r, fa, q⟩ := q
    refine ⟨G, ρ, r, ha.mono _ _ _ _ _ (fun ss hs vs O' H1 r1 sb a1 => ?_) (fun _ z => ex_out' z) q⟩
    have hl : vs.length = is.length := a1.length.trans hs.1
    refine ⟨by rw [hl, hni]; exact hz, fun p hp => ⟨p, vs, rfl, SqT.of upd_same, by rw [hl, hni], tnames_set ht hl ?_⟩⟩
    have r2 := r1.alloc (H' := upd H1 p (.tup vs)) fun b o eb => by rw [upd_ne (ne_of_none eb hp)]; exact eb
    have a2 : AllB T.dc X.K ρ σ G.O O' (upd H1 p (.tup vs)) vs ss := by
      have eh : ExtN (hide O' H1) (hide O' (upd H1 p (.tup vs))) := ext_hide fun b o _ eb _ => by rw [upd_ne (ne_of_none eb hp)]; exact eb
      exact a1.ext eh fun b hb _ => by obtain ⟨o, ho, _⟩ := r1.dom b hb; exact upd_ne (ne_of_none ho hp)
    obtain ⟨r3, fa3⟩ := Rep.setAll (G := ⟨G.Hb, O', G.fl⟩) (is := is) a2 r2 fa (fun q hq => (r.fly q hq).1)
    exact hs.2 _ _ O' r3 fa3, mono_ParN ha.mono⟩
end
end PL
set_option Elab.async false
set_option linter.all false
set_option maxRecDepth 100000
set_option maxHeartbeats 2000000
namespace PL
open PySem PySem.Spec PyProof.Rows L2
open LamX (ExtN Tabs TabS)
section
variable {T : Tb} {X : Cx} {W : WX} {pos p pos' apos cpos tpos : Pos} {e a b c f : Expr} {es : List Expr} {st : Stmt} {K : PySem.W.Frag} {G G2 : Gh} {ρ ρ2 : En} {σ σ2 : L2.St} {H H' : Hp} {D : Ends}
def sPop (i j : Nat) : SW := fun ρ D => match ρ[j]? with
  | some (.ol ds) => match ds[ds.length - 1]? with
    | some d => D.nx ((ρ.set j (.ol ds.dropLast)).set i (.sh d))
    | none => False
  | _ => False
theorem DaAll.dropLast : ∀ {vs : List V} {ds : List PyData}, DaAll K H vs ds → DaAll K H vs.dropLast ds.dropLast
  | _, _, .nil => .nil
  | _, _, .cons _ .nil => .nil
  | _, _, .cons h (.cons h2 r) => .cons h (DaAll.dropLast (.cons h2 r))
theorem ds_pop {i j : Nat} {x : Str} (hN : X.N.Nodup) (hi : X.N[i]? = some x) (hx : Loc X.env.scope x) (ha : PE X a (tVar j))
    (hs : swapsWith (.Call (.Attribute a "pop" apos) [] [] cpos) (some (.Name x pos')) pos.line X.env = pure false := by rfl) (hbase : attributeBase a "pop" X.env (eval a X.env) = eval a X.env := by rfl) (hline : (apos.endLine == cpos.line) = true := by rfl)
    (hf : X.fn x = true ∨ X.env.scope.names.lookup x = some .local := by first | exact .inl rfl | exact .inr rfl | assumption) : DS T X W (.Assign [.Name x pos'] (.Call (.Attribute a "pop" apos) [] [] cpos) pos) (sPop i j) :=
  ⟨ps_mono (ps_set hN hi hx (pe_bm0 PySem.F.plainAttrs_list PySem.F.slot_list_pop PySem.F.type_list_pop mt_pop ha hbase hline) hs hf) fun D σ H q => by
    obtain ⟨G, ρ, r, fa, q⟩ := q
    unfold sPop at q
    split at q
    · rename_i ds hd
      split at q
      · rename_i d hdl
        obtain ⟨v, h1, b, vs, rfl, h3, h4, h5⟩ := r.slot j _ hd
        obtain ⟨y, hy, dy⟩ := h5.getD hdl
        refine ⟨_, h1, .inl ⟨rfl, _, SqL.of h4⟩, _, vs, y, rfl, rfl, h4, by rw [h5.length]; exact hy, ?_⟩
        have r2 := r.wr hd h1 h3 h4 h5.dropLast fun q hq z => fa q hq j _ hd rfl (by rw [z]; exact h1)
        have eh : hide G.O (upd H b (.lst vs.dropLast)) = hide G.O H := hide_upd h3.1
        exact q _ _ G.O (r2.setSh (by rw [eh]; exact dy)) (FlApt.setSh (fa.wr hd rfl))
      · exact q.elim
    · exact q.elim, fun ρ D D' l q => by
    unfold sPop at q ⊢
    split at q
    · split at q
      · exact l.nx _ q
      · exact q
    · exact q⟩
def sExt (i : Nat) (w : PW) : SW := fun ρ D => match ρ[i]? with
  | some (.ol ds) => w ρ (fun d => match d with | .list es => ds.length + es.length ≤ sizeLine ∧ D.nx (ρ.set i (.ol (ds ++ es))) | _ => False) D.ex
  | _ => False
theorem ds_ext {i : Nat} {w : PW} (ha : PE X a (tVar i)) (h : DE T X W e w)
    (hs0 : swapsWith (.Call (.Attribute a "extend" apos) [e] [] pos) none pos'.line X.env = pure false := by rfl)
    (hbase : attributeBase a "extend" X.env (eval a X.env) = eval a X.env := by rfl)
    (hfew : ((backTo pos (starEach [e] X.env)).all (fun x => !x.1) && (backToKw pos (keywordEach [] X.env)).all (fun x => x.1.isSome)
      && decide (([e]).length + ([] : List Keyword).length + (if ([] : List Keyword).isEmpty then 0 else 1) < 30)) = true := by rfl)
    (hline : (apos.endLine == pos.line) = true := by rfl) (hs : starEach [e] X.env = (false, eval e X.env) :: starEach [] X.env := by rfl) :
    DS T X W (.Expr (.Call (.Attribute a "extend" apos) [e] [] pos) pos') (sExt i w) :=
  ⟨ps_mono (ps_expr (pe_bm PySem.F.plainAttrs_list PySem.F.slot_list_extend PySem.F.type_list_extend mt_extend ha (pa_cons h.pe pa_nil hs) hbase hfew hline hs (by rfl)) hs0) fun D σ H q => by
    obtain ⟨G, ρ, r, fa, q⟩ := q
    unfold sExt at q
    split at q
    · rename_i ds hd
      obtain ⟨v, h1, b, vs, rfl, h3, h4, h5⟩ := r.slot i _ hd
      refine ⟨_, h1, .inl ⟨rfl, _, SqL.of h4⟩, lift_intro h.mono r (h.mono _ _ _ _ _ (fun d hd' v H1 r1 e1 a1 => ?_) (fun _ z => ex_out' z) q)⟩
      cases a1 with
      | lst g1 g2 =>
        rename_i c us es
        obtain ⟨v', h1', b', vs', e', h3', h4', h5'⟩ := r1.slot i _ hd
        rw [h1] at h1'
        cases h1'
        cases e'
        refine ⟨_, c, vs', us, rfl, rfl, h4', (hide_some g1).2, by rw [h5'.length, g2.length]; exact hd'.1, ?_⟩
        exact hd'.2 σ _ G.O (r1.wr hd h1 h3' h4' (h5'.append g2) fun q hq z => fa q hq i _ hd rfl (by rw [z]; exact h1)) (fa.wr hd rfl)
      | _ => exact hd'.elim
    · exact q.elim, fun ρ D D' l q => by
    unfold sExt at q ⊢
    split at q
    · exact h.mono _ _ _ _ _ (fun d hd => by cases d <;> first | exact ⟨hd.1, l.nx _ hd.2⟩ | exact hd) l.ex q
    · exact q⟩
end
end PL
set_option Elab.async false
set_option linter.all false
set_option maxRecDepth 100000
set_option maxHeartbeats 2000000
namespace PL
open PySem PySem.Spec PyProof.Rows L2 LamX
structure LamP (sc scope : Scope) (p : Str) : Prop where
  kind : scope.kind = .function
  co : scope.isCoroutine = false
  gen : scope.isGenerator = false
  par : scope.names.lookup p = some .local
  own : ∀ y ∈ scope.names, y.2 ≠ .cell
  loc : ∀ y ∈ scope.names, scope.names.lookup y.1 = some y.2 ∧ (y.2 = .local → y.1 = p)
  free : ∀ y ∈ scope.names, y.2 = .free → sc.names.lookup y.1 = some .cell ∨ sc.names.lookup y.1 = some .free
section
variable {X : Cx} {pins : List (Addr × Obj)} {σ : L2.St} {H : Hp} {s : Shared}
theorem LamP.has {scope : Scope} {p : Str} (L : LamP X.env.scope scope p) (ok : X.Ok) : ∀ y ∈ scope.names, y.2 = .free → ∃ c, X.env.cells.lookup y.1 = some c := fun y hy e => ok.has y.1 ((L.free y hy e).elim .inl .inr)
end
end PL
set_option Elab.async false
set_option linter.all false
set_option maxRecDepth 100000
set_option maxHeartbeats 4000000
namespace PL
open PySem PySem.Spec PyProof.Rows L2 LamX
section
variable {X : Cx} {pins : List (Addr × Obj)} {σ : L2.St} {H : Hp} {s : Shared} {T : Tb} {G : Gh} {ρ : En}
/-- an object that nobody tracks, and that may change -/
structure Loose (X : Cx) (pins : List (Addr × Obj)) (H : Hp) (a : Addr) : Prop where
  no : H a = none
  big : X.s_0.heap.objs.size ≤ a
  loc : a ≠ X.env.locals
  cell : ∀ x c, X.env.cells.lookup x = some c → c ≠ a
  pin : ∀ p ∈ X.pn ++ pins, p.1 ≠ a
  fs : a ∉ X.fs
theorem Loose.some {a : Addr} (l : Loose X pins H a) {H' : Hp} (h : H' a = none) {pins' : List (Addr × Obj)} (hp : ∀ p ∈ pins', p ∈ pins ∨ p.1 ≠ a) : Loose X pins' H' a :=
  ⟨h, l.big, l.loc, l.cell, fun p q => (List.mem_append.mp q).elim (fun z => l.pin p (List.mem_append_left _ z)) fun z => (hp p z).elim (fun y => l.pin p (List.mem_append_right _ y)) id, l.fs⟩
end
end PL
set_option Elab.async false
set_option linter.all false
set_option maxRecDepth 100000
set_option maxHeartbeats 4000000
namespace PL
open PySem PySem.Spec PyProof.Rows L2 LamX
end PL
set_option Elab.async false
set_option linter.all false
set_option maxRecDepth 100000
set_option maxHeartbeats 4000000
namespace PL
open PySem PySem.Spec PyProof.Rows L2 LamX
section
variable {X : Cx} {pins : List (Addr × Obj)} {σ : L2.St} {H H' : Hp} {s : Shared} {T : Tb} {G : Gh} {ρ : En} {W : WX} {K : PySem.W.Frag}
/-- a list, or a range from nought -/
def KVal (K : PySem.W.Frag) (H : Hp) (v : V) (ds : List PyData) : Prop :=
  (∃ a vs, v = .ref a ∧ H a = some (.lst vs) ∧ DaAll K H vs ds) ∨ ∃ (a : Addr) (n : Int), v = .ref a ∧ H a = some (.rng 0 n) ∧ 0 ≤ n ∧ n ≤ 100000 ∧ ds = rangeD 0 n.toNat
theorem KVal.ext {v : V} {ds : List PyData} (h : KVal K H v ds) (e : ExtN H H') : KVal K H' v ds := by
  rcases h with ⟨a, vs, h1, h2, h3⟩ | ⟨a, n, h1, h2, h3⟩
  · exact .inl ⟨a, vs, h1, e _ _ h2 (fun ps z => by cases z), h3.ext e⟩
  · exact .inr ⟨a, n, h1, e _ _ h2 (fun ps z => by cases z), h3⟩
end
end PL
set_option Elab.async false
set_option linter.all false
set_option maxRecDepth 100000
set_option maxHeartbeats 2000000
namespace PL
open PySem PySem.Spec PyProof.Rows L2
open LamX (ExtN Tabs TabS)
end PL
set_option Elab.async false
set_option linter.all false
set_option maxRecDepth 100000
set_option maxHeartbeats 2000000
namespace KSet
open PySem PySem.Spec PyProof.Rows L2
def bk (v : Value) : Key := match v with
  | .int k _ => .inl k
  | .str x _ => .inr x
  | _ => .inl 0
def Ent (P : Program) (w : World) (e : Int × Value) : Prop := (mixKind P w).is (bk e.2) e.2 = true ∧ e.1 = (mixKind P w).hash (bk e.2) ∧ e.2.scannable = true
/-- the set at a; ks its members -/
structure Tb (P : Program) (w : World) (M : Array (Int × Value)) (tb : SetTable) (ks : List Key) : Prop where
  ent : ∀ e ∈ M.toList, Ent P w e
  per : (M.toList.map fun e => bk e.2).Perm ks
  nod : ks.Nodup
  few : M.size < scanBound
  fit : tb.fits M.size = true
  ris : Ris tb.place.toList
  led : w.params.followText "set-order" = true ∨ tb.led = true
def SetQ (P : Program) (w : World) (h : Heap) (a : Addr) (ks : List Key) : Prop := ∃ ob M ep tb, h.get? a = some ob ∧ ob.ExactSet ∧ ob.data = .set M ep tb ∧ Tb P w M tb ks
section
variable {P : Program} {w : World} {A : Around} {E : Value → Shared → Prop} {s : Shared} {a : Addr} {ks : List Key} {k : Key} {x : Value}
theorem bk_is {k : Key} {v : Value} (h : (mixKind P w).is k v = true) : bk v = k := by
  rcases keyIs_shape h with ⟨i, t, rfl, rfl⟩ | ⟨y, t, rfl, rfl⟩ <;> rfl
theorem Tb.mem {M : Array (Int × Value)} {tb : SetTable} (B : Tb P w M tb ks) (k : Key) : k ∈ ks ↔ ∃ e ∈ M.toList, (mixKind P w).is k e.2 = true := by
  rw [← B.per.mem_iff, List.mem_map]
  refine ⟨fun ⟨e, he, q⟩ => ⟨e, he, by rw [← q]; exact (B.ent e he).1⟩, fun ⟨e, he, q⟩ => ⟨e, he, bk_is q⟩⟩
theorem Tb.size {M : Array (Int × Value)} {tb : SetTable} (B : Tb P w M tb ks) : M.size = ks.length := by
  have := B.per.length_eq
  rwa [List.length_map, Array.length_toList] at this
theorem SetQ.at {h h' : Heap} (R : SetQ P w h a ks) (kp : ∀ o, h.get? a = some o → h'.get? a = some o) : SetQ P w h' a ks := by
  obtain ⟨ob, M, ep, tb, ho, r⟩ := R
  exact ⟨ob, M, ep, tb, kp ob ho, r⟩
end
variable {X : Cx}
end KSet
set_option Elab.async false
set_option linter.all false
set_option maxRecDepth 100000
set_option maxHeartbeats 2000000
namespace KSet
open PySem PySem.Spec PyProof.Rows L2
end KSet
set_option Elab.async false
set_option linter.all false
set_option maxRecDepth 100000
set_option maxHeartbeats 2000000
namespace PL
open PySem PySem.Spec PyProof.Rows L2 KSet
open LamX (ExtN Tabs TabS)
end PL
set_option Elab.async false
set_option linter.all false
set_option maxRecDepth 100000
set_option maxHeartbeats 2000000
namespace PL
open PySem PySem.Spec PyProof.Rows L2 KSet
open LamX (ExtN Tabs TabS)
end PL
set_option Elab.async false
set_option linter.all false
set_option maxRecDepth 100000
set_option maxHeartbeats 2000000
namespace KSetT
open PySem PySem.Spec PyProof.Rows L2 KSet
end KSetT
set_option Elab.async false
set_option linter.all false
set_option maxRecDepth 100000
set_option maxHeartbeats 2000000
namespace PL
open PySem PySem.Spec PyProof.Rows L2 KSet KSetT
open LamX (ExtN Tabs TabS)
end PL
set_option Elab.async false
set_option linter.all false
set_option maxRecDepth 100000
set_option maxHeartbeats 2000000
namespace PL
open PySem PySem.Spec PyProof.Rows L2
open LamX (ExtN Tabs TabS)
theorem u8 {k : Nat} {A : Around} (hr : Room k A) : A.units + 8 < cLine := by have := hr.un; omega
def tyD : PyData → String
  | .none => "NoneType"
  | .bool _ => "bool"
  | .int _ => "int"
  | .str _ => "str"
  | .list _ => "list"
  | .tuple _ => "tuple"
  | .dict _ => "dict"
def isTy (a b : String) : Bool := a == b || (a == "bool" && b == "int")
section
variable {T : Tb} {X : Cx} {W : WX} {pos p p2 : Pos} {e a b c : Expr} {K : PySem.W.Frag} {G : Gh} {ρ ρ2 : En} {σ σ2 : L2.St} {H H' : Hp}
def nDc : PyData → Prop
  | .dict _ => False
  | _ => True
theorem tyX_of {v : V} {d : PyData} (h : Da K H v d) (n : nDc d) : TyX K H v (.type (tyD d)) := by
  cases h with
  | ob _ => exact n.elim
  | non => exact .base .non
  | bl b => exact .base (.bl b)
  | int i => exact .base (.int i)
  | str x => exact .base (.str x)
  | lst h _ => exact .base (.lst h)
  | tup h _ => exact .base (.tup h)
  | ftup h _ _ _ => exact .fTuple h
  | dk h _ => exact .base (.dK h)
  | dt h _ _ => exact .base (.dT h)
  | dte h => exact .base (.dT h)
def KitT (t : String) : Prop := ∀ (K : PySem.W.Frag) (d : PyData), PySem.W.kitOne K (.type (tyD d)) (.type t) = some (isTy (tyD d) t)
theorem kit_tuple : KitT "tuple" := fun K d => by cases d <;> kernel_rfl
theorem kit_int : KitT "int" := fun K d => by cases d <;> kernel_rfl
theorem kit_bool : KitT "bool" := fun K d => by cases d <;> kernel_rfl
theorem kit_str : KitT "str" := fun K d => by cases d <;> kernel_rfl
def wIsi (t : String) (w : PW) : PW := fun ρ Q E => w ρ (fun d => nDc d ∧ Q (.bool (isTy (tyD d) t))) E
theorem de_isi {w : PW} {x : Str} {t : String} (kt : KitT t) (hb : bootBuiltins x = some (.type t)) (hg : Gl X "isinstance") (hm : X.mg "isinstance" = none) (hg2 : Gl X x) (hm2 : X.mg x = none) (he : DE T X W e w) (hn : x ≠ "__name__" := by decide) (hd : (x == ("__debug__" : Str)) = false := by decide)
    (hs : starEach [e, .Name x p2] X.env = (false, eval e X.env) :: starEach [.Name x p2] X.env := by rfl) (hs2 : starEach [.Name x p2] X.env = (false, eval (.Name x p2) X.env) :: starEach [] X.env := by rfl) (hpl : (backTo pos (starEach [.Name x p2] X.env)).any (·.1) = false := by rfl) :
    DE T X W (.Call (.Name "isinstance" p) [e, .Name x p2] [] pos) (wIsi t w) := by
  have pt : PE X (.Name x p2) (tC (.ty t)) := ⟨fun _ _ _ H _ I h => ld_blt I hg2 hm2 hb ⟨.ty t, H, I, rfl, h⟩ hn hd⟩
  refine ⟨pe_mono (pe_callB (call_isi (X := X)) hg hm (by decide +kernel : bootBuiltins "isinstance" = some (.builtin "isinstance")) (pa_cons he.pe (pa_cons pt pa_nil hs2) hs) (by decide) (by decide) hs hpl) fun σ H Q q => ?_, fun ρ Q Q' E E' hq he' q => he.mono _ _ _ _ _ (fun d hd => ⟨hd.1, hq _ hd.2⟩) he' q⟩
  obtain ⟨G, ρ, r, q⟩ := q
  refine ⟨G, ρ, r, he.mono _ _ _ _ _ (fun d hd v H' r' a => ?_) (fun _ z => z) q⟩
  exact ⟨v, .ty t, .type (tyD d), .type t, isTy (tyD d) t, rfl, .ty t, tyX_of a.whole hd.1, kt _ _, hd.2 _ H' r' (.bl _)⟩
end
end PL
set_option Elab.async false
set_option linter.all false
set_option maxRecDepth 100000
set_option maxHeartbeats 2000000
namespace PL
open PySem PySem.Spec PyProof.Rows L2
section
variable {X : Cx} {pins : List (Addr × Obj)} {σ : L2.St} {H : Hp} {s : Shared} {a b : Addr} {vs : List NE} {k : NestedKey} {E : Value → Shared → Prop}
theorem n_getItem {u : Value} {v : V} {Q : Value → Shared → Prop} (hu : X.A.units + 64 < cLine) (I : Inv X pins σ H s) (g : NDict H a vs) (hk : HK H k (.ref b)) (hd : k.depth ≤ 8) (ry : RelV (.ref b) u) (hv : valN vs k = some v)
    (h : ∀ r s', Inv X pins σ H s' → RelV v r → Q r s') : wpAny (model X.prog X.w) X.A (getItem (.ref a) u) Q E s := by
  obtain ⟨_, _, _, xs, pr, dd⟩ := nd_of I.hok g
  have := at_valN k pr
  rw [hv] at this
  obtain ⟨p, hp, rv⟩ := this
  obtain rfl : u = Value.ref b := ry
  exact wpAny_getItem_heap (knd := nestedKind X.prog X.w) (show X.A.units + 1 + 8 < cLine by omega) ⟨HK.is I.hok hk rfl, hd⟩ dd hp (h _ _ (I.tok _) rv)
theorem n_some (I : Inv X pins σ H s) {xs : List (NestedKey × Addr × Value)} (pr : Paired NEr vs xs) (k : NestedKey) : (valN vs k).isSome = (atKey xs k).isSome := by
  have := at_valN k pr
  cases c : valN vs k with
  | none => rw [c] at this; rw [this]; rfl
  | some v => rw [c] at this; obtain ⟨p, h, _⟩ := this; rw [h]; rfl
theorem n_notin {u : Value} {Q : Value → Shared → Prop} (hu : X.A.units + 64 < cLine) (I : Inv X pins σ H s) (g : NDict H a vs) (hk : HK H k (.ref b)) (hd : k.depth ≤ 8) (ry : RelV (.ref b) u)
    (h : ∀ s', Inv X pins σ H s' → Q (.bool (!(valN vs k).isSome)) s') : wpAny (model X.prog X.w) X.A (compareOp .NotIn u (.ref a)) Q E s := by
  obtain ⟨_, hs, _, xs, pr, dd⟩ := nd_of I.hok g
  obtain rfl : u = Value.ref b := ry
  refine notIn_keyed (knd := nestedKind X.prog X.w) (kvs := pairsH xs) (show X.A.units + 1 + 8 < cLine by omega) ⟨HK.is I.hok hk rfl, hd⟩ hs ⟨xs, dd, rfl⟩ ?_
  rw [valueAt_pairsH, Option.isSome_map, ← n_some I pr k]
  exact h _ (I.tok _)
theorem n_setItem {u r : Value} {v : V} {Q : Unit → Shared → Prop} (hu : X.A.units + 64 < cLine) (I : Inv X pins σ H s) (g : NDict H a vs) (own : H a = some (NO a vs)) (hk : HK H k (.ref b)) (hd : k.depth ≤ 8) (ht : tf k = true) (hl : vs.length < sizeLine) (ry : RelV (.ref b) u) (rv : RelV v r)
    (h : ∀ s', Inv X pins σ (upd H a (NO a (putN vs k b v))) s' → Q () s') : wpAny (model X.prog X.w) X.A (setItem (.ref a) u r) Q E s := by
  obtain ⟨hz, hs, hn, xs, pr, dd⟩ := nd_of I.hok g
  obtain rfl : u = Value.ref b := ry
  have lx : vs.length = xs.length := Paired.length pr
  refine wpAny_setItem_heap (knd := nestedKind X.prog X.w) (hsz := by omega) (show X.A.units + 1 + 8 < cLine by omega) ⟨HK.is I.hok hk rfl, hd⟩ dd fun h' hm' hsb => h _ ?_
  have new : NRaw a (putN vs k b v) h' := NRaw.of (by have := putN_len (vs := vs) k b v; omega) hs (fun p hp => by
    rcases putN_mem hp with ⟨p', hp', e1, _⟩ | ⟨e1, _⟩
    · rw [← e1]; exact hn p' hp'
    · rw [e1]; exact ⟨ht, hd⟩) (put_valN rv pr) hm'
  obtain ⟨o, _, _, e, _⟩ := id hm'
  exact d_write I (by rw [own]; exact True.intro) hsb ⟨o, e⟩ new.ok
variable {o i e value : Expr} {td ty tv : TE} {pos pos' p : Pos}
def tNGet (td ty : TE) : TE := fun σ H Q => td σ H fun x H1 => ty σ H1 fun y H2 => ∃ a vs k b v, x = .ref a ∧ NDict H2 a vs ∧ y = .ref b ∧ HK H2 k (.ref b) ∧ k.depth ≤ 8 ∧ valN vs k = some v ∧ Q v H2
theorem pe_nget {n : Nat} (hr : Room n X.A) (ho : PE X o td) (hi : PE X i ty) (hs : NoSl i) : PE X (.Subscript o i pos) (tNGet td ty) := by
  refine ⟨fun pins s σ H Q I h => ?_⟩
  refine subD_of PySem.F.slot_dict_getitem.lookup hs (thn (ho.run pins s σ H _ I h) fun u s1 ⟨x, H1, I1, rx, q1⟩ => thn (hi.run pins s1 σ H1 _ I1 q1) fun iv s2 ⟨y, H2, I2, ry, a, vs, k, b, v, ex, g, ey, hk, hd, hv, q2⟩ => ?_)
  subst ex ey
  obtain rfl : u = Value.ref a := rx
  obtain ⟨_, _, _, xs, pr, dd⟩ := nd_of I2.hok g
  exact ⟨dd.typeIs, n_getItem hr.units I2 g hk hd ry hv fun w' s3 I3 rw' => ⟨v, H2, I3, rw', q2⟩⟩
def tNIn (neg : Bool) (ty td : TE) : TE := fun σ H Q => ty σ H fun y H1 => td σ H1 fun x H2 => ∃ a vs k b, x = .ref a ∧ NDict H2 a vs ∧ y = .ref b ∧ HK H2 k (.ref b) ∧ k.depth ≤ 8 ∧ Q (.bl (if neg then !(valN vs k).isSome else (valN vs k).isSome)) H2
theorem pc_nnotin {n : Nat} (hr : Room n X.A) (hi : PE X i ty) (ho : PE X o td) : PC X .NotIn i o (tNIn true ty td) := by
  refine ⟨fun pins s σ H Q I h => ?_⟩
  refine thn (hi.run pins s σ H _ I h) fun iv s1 ⟨y, H1, I1, ry, q1⟩ => thn (ho.run pins s1 σ H1 _ I1 q1) fun u s2 ⟨x, H2, I2, rx, a, vs, k, b, ex, g, ey, hk, hd, q2⟩ => ?_
  subst ex ey
  obtain rfl : u = Value.ref a := rx
  exact n_notin hr.units I2 g hk hd ry fun s3 I3 => ⟨.bl _, H2, I3, rfl, q2⟩
def sNSet (td ty tv : TE) : TS := fun D σ H => tv σ H fun v H1 => td σ H1 fun x H2 => ty σ H2 fun y H3 => ∃ a vs k b, x = .ref a ∧ NDict H3 a vs ∧ H3 a = some (NO a vs) ∧ y = .ref b ∧ HK H3 k (.ref b) ∧ k.depth ≤ 8 ∧ tf k = true ∧ vs.length < sizeLine ∧ D.nx σ (upd H3 a (NO a (putN vs k b v)))
theorem ps_nset {n : Nat} (hr : Room n X.A) (ho : PE X o td) (hi : PE X i ty) (hv : PE X value tv) (hs : swapsWith value (some (.Subscript o i pos')) pos.line X.env = pure false) :
    PS X (.Assign [.Subscript o i pos'] value pos) (sNSet td ty tv) := by
  refine ⟨fun pins s σ H D I h => ?_⟩
  refine wpAny_Assign_Subscript (thn (hv.run pins s σ H _ I h) fun r s1 ⟨v, H1, I1, rv, q1⟩ => thn (ho.run pins s1 σ H1 _ I1 q1) fun u s2 ⟨x, H2, I2, rx, q2⟩ => thn (hi.run pins s2 σ H2 _ I2 q2) fun iv s3 ⟨y, H3, I3, ry, a, vs, k, b, ex, g, own, ey, hk, hd, ht, hl, q3⟩ => ?_) hs
  subst ex ey
  obtain rfl : u = Value.ref a := rx
  exact n_setItem hr.units I3 g own hk hd ht hl ry rv fun s4 I4 => ⟨σ, _, I4, q3⟩
theorem nraw_empty (h : Heap) (hb : sysModules < h.objs.size) : NRaw h.objs.size [] (h.push { cls := .type "dict", data := .dict #[] }) :=
  ⟨Nat.zero_le _, beq_eq_false_iff_ne.mpr (Ne.symm (Nat.ne_of_lt hb)), (fun p hp => by cases hp), [], .nil, _, #[], 0, Heap.get?_push_size _ rfl, ⟨rfl, rfl, rfl⟩, rfl, fun _ _ => rfl, List.nodup_nil⟩
def tDNewN : TE := fun _ H Q => ∀ p, H p = none → Q (.ref p) (upd H p (NO p []))
theorem pe_dnewN : PE X (.Dict [] [] pos) tDNewN := ⟨fun pins s σ H Q I h =>
  wpAny_Dict_empty ⟨.ref s.heap.objs.size, _, I.laid (a := s.heap.objs.size) (o := NO s.heap.objs.size []) (t' := s.toks) (fun _ _ q => Heap.get?_push_of_some _ q) (Nat.le_refl _) (nraw_empty s.heap I.big).ok, rfl, h _ (I.hok.fresh (Nat.le_refl _))⟩⟩
def tDispN1 (tk tv : TE) : TE := fun σ H Q => ∀ p, H p = none → tk σ (upd H p (NO p [])) fun x H1 => tv σ H1 fun y H2 => H2 p = some (NO p []) ∧ ∃ (b : Addr) (k : NestedKey), x = .ref b ∧ HK H2 k (.ref b) ∧ k.depth ≤ 8 ∧ tf k = true ∧ Q (.ref p) (upd H2 p (NO p [(k, b, y)]))
theorem pe_dispN1 {n : Nat} {a b : Expr} {tk tv : TE} (hr : Room n X.A) (hk : PE X a tk) (hv : PE X b tv) : PE X (.Dict [some a] [b] pos) (tDispN1 tk tv) := by
  refine ⟨fun pins s σ H Q I q => ?_⟩
  have hu : X.A.units + 64 < cLine := hr.units
  have hn := I.hok.fresh (Nat.le_refl s.heap.objs.size)
  have I1 := I.laid (a := s.heap.objs.size) (o := NO s.heap.objs.size []) (h' := s.heap.push { cls := .type "dict", data := .dict #[] }) (t' := s.toks) (fun _ _ q => Heap.get?_push_of_some _ q) (Nat.le_refl _) (nraw_empty s.heap I.big).ok
  have hp : PPs X pos [some a] [b] [(tk, tv)] := pps_cons hk hv pps_nil
  rw [arm_eval_Dict, zip_pairTrees [some a] [b] X.env pos rfl rfl, dictDisplay_pairs (pairTrees [some a] [b] X.env pos) (by intro z; cases z) (by rw [pairTrees_length _ _ _ _ rfl rfl]; show 1 < 17; omega)]
  refine wpAny_bind (wpAny_standAt (wpAny_bind (wpAny_subDictH (knd := nestedKind X.prog X.w) (show X.A.units + 8 < cLine by omega) (by rw [pairTrees_length _ _ _ _ rfl rfl]; show 1 ≤ 15; omega) (thn (hp.run pins _ σ _ (fun ps H2 => match ps with
    | [(x, y)] => H2 s.heap.objs.size = some (NO s.heap.objs.size []) ∧ ∃ (b : Addr) (k : NestedKey), x = .ref b ∧ HK H2 k (.ref b) ∧ k.depth ≤ 8 ∧ tf k = true ∧ Q (.ref s.heap.objs.size) (upd H2 s.heap.objs.size (NO s.heap.objs.size [(k, b, y)]))
    | _ => False) I1 (q _ hn)) fun ws s2 ⟨ps, H2, I2, rel, h⟩ => ?_))))
  match ps, rel, h with
  | [(x, y)], rel, ⟨e2, b2, kk, ex, eb, hd8, htf, q2⟩ =>
    subst ex
    obtain ⟨z, hd, _, xs0, r0, dd⟩ := nd_of I2.hok (show NDict H2 s.heap.objs.size [] from ⟨.inl e2, fun p hp => by cases hp⟩)
    cases r0
    cases rel with
    | @cons _ w0 _ ws0 h1 h2 =>
      cases h2
      obtain ⟨rx, ry⟩ := h1
      obtain ⟨key, v⟩ := w0
      obtain rfl : key = Value.ref b2 := rx
      refine ⟨[(kk, b2, v)], ⟨rfl, rfl, ⟨HK.is I2.hok eb rfl, hd8⟩, True.intro⟩, dd, fun h' tk dd' hs => wpAny_pure ⟨.ref s.heap.objs.size, _, ?_, rfl, q2⟩⟩
      have new : NRaw s.heap.objs.size [(kk, b2, y)] h' := NRaw.of (by show 1 ≤ sizeLine; decide) hd (fun p hp => by rw [List.mem_singleton.mp hp]; exact ⟨htf, hd8⟩) (.cons ⟨rfl, rfl, ry⟩ .nil) dd'
      obtain ⟨o, _, _, e, _⟩ := id dd'
      exact d_write I2 (by rw [e2]; exact True.intro) hs ⟨o, e⟩ new.ok
def Itn (d : Addr) (o : Obj) (vs : List NE) : It :=
  ⟨fun i H => H d = some (.frz o (NO d vs)) ∧ i < vs.length, fun i H x H' => H' = H ∧ ∃ p, vs[i]? = some p ∧ x = .ref p.2.1, fun i H => H d = some (.frz o (NO d vs)) ∧ vs.length ≤ i⟩
theorem frzN {d : Addr} {o : Obj} (I : Inv X pins σ H s) (h : H d = some (.frz o (NO d vs))) :
    (d == sysModules) = false ∧ s.heap.get? d = some o ∧ o.ExactDict ∧ ∃ (es : Array DictEntry) (ep : Nat), o.data = .dict es ep ∧ es.size = vs.length ∧
      ∀ (i : Nat) (p : NE), vs[i]? = some p → ∃ (en : DictEntry), es[i]? = some en ∧ en.key = .ref p.2.1 := by
  obtain ⟨hd, ⟨z, hs, hn, xs, pr, o', es, ep, ho, hx, hdt, he, _⟩, _⟩ := I.hok d _ h
  rw [hd] at ho
  cases ho
  have he := he X.prog X.w
  refine ⟨hs, hd, hx, es, ep, hdt, ?_, fun i p e => ?_⟩
  · have l1 : es.size = xs.length := size_of_entries he
    have l2 : vs.length = xs.length := Paired.length pr
    omega
  · obtain ⟨b, hb, e1, e2, _⟩ := paired_get pr e
    have q := entry_at he i
    rw [hb] at q
    exact ⟨_, q, by rw [e2]; rfl⟩
theorem turn_keysN {P : Program} {w : World} {K : PySem.W.Frag} {tg : Expr} {d : Addr} {o : Obj} {es : Array DictEntry} {ep : Nat} (it : Addr) (hod : o.data = .dict es ep) : Turn P w K tg (Itn d o vs) [it] it (fun i h => h.IsKeyIter it d i vs.length ep) where
  mem := by simp
  obj := fun i h st b hb => by
    have e : b = it := by simpa using hb
    subst e
    obtain ⟨oi, e, c, dd⟩ := st
    exact ⟨oi, e, fun v z => by rw [dd] at z; cases z⟩
  keep := fun i h h' st k => st.at fun oi e => k it (by simp) oi e
  item := by
    intro X hP hw hK hc i pins s σ H E I hf st hg
    subst hP hw hK
    obtain ⟨hd, hi⟩ := hg
    obtain ⟨f0, f1, f2, f3, f4, f5⟩ := hf it (by simp)
    obtain ⟨hs, hgd, hx, es', ep', hdt, hsz, ent⟩ := frzN I hd
    obtain ⟨rfl, rfl⟩ := dict_ep hod hdt
    obtain ⟨p, hkv⟩ : ∃ p, vs[i]? = some p := ⟨vs[i], List.getElem?_eq_getElem hi⟩
    obtain ⟨en, hen, hkey⟩ := ent i p hkv
    refine next_key_item st hgd hdt hsz hen fun h' st' sb => ?_
    have I1 : Inv X pins σ H { s with heap := h' } := I.turned (t' := s.toks) (fun b ob hb e => (sb.2 b hb).trans e) f0 f1 f3 f4 f5
    obtain ⟨oi, e, c, dd⟩ := id st'
    exact ⟨en.key, rfl, go_of (s := { s with heap := h' }) e c dd (by decide) ⟨.ref p.2.1, H, I1, hkey, ⟨rfl, p, hkv, rfl⟩, st', fun b hb => (hf b hb).1⟩⟩
  done := by
    intro X hP hw hK hc i pins s σ H E I hf st hg
    subst hP hw hK
    obtain ⟨hd, hi⟩ := hg
    obtain ⟨f0, f1, f2, f3, f4, f5⟩ := hf it (by simp)
    obtain ⟨hs, hgd, hx, es', ep', hdt, hsz, ent⟩ := frzN I hd
    obtain ⟨rfl, rfl⟩ := dict_ep hod hdt
    exact next_key_end (I.ok.hd hc) st hgd hdt hsz hi fun h' eb => ⟨rfl, I.turned (t' := s.toks) (fun b ob hb e => eb b ob hb e) f0 f1 f3 f4 f5⟩
  self := fun A i s Q E st h => by
    refine wpAny_pyIter_slot st.typeIs F.slot_dict_keyiterator_iter (wpAny_call_entry F.slot_dict_keyiterator_iter st.typeIs F.entry_dict_keyiterator_iter ?_ (F.args_dict_keyiterator_iter_1 _))
    show wpAny _ _ (ret (.ref it)) _ _ s
    exact wpAny_pure ⟨_, rfl, "dict_keyiterator", _, st.typeIs, F.slot_dict_keyiterator_next.lookup, h⟩
def iKeysN (td : TE) : TI := fun σ H R => td σ H fun x H1 => ∃ d o vs, x = .ref d ∧ H1 d = some (.frz o (NO d vs)) ∧ R (Itn d o vs) H1
theorem pi_keysN {tg : Expr} (he : PE X e td) : PI X tg e (iKeysN td) := by
  refine ⟨fun pins s σ H R I h => ?_⟩
  refine thn (he.run pins s σ H _ I h) fun u s1 ⟨x, H1, I1, rx, d, o, vs, ex, hd, q⟩ => ?_
  subst ex
  obtain rfl : u = Value.ref d := rx
  obtain ⟨hs, hgd, hx, es, ep, hdt, hsz, ent⟩ := frzN I1 hd
  refine iter_keys hs hgd hx hdt (pi_one (tk := s1.toks) I1 _ (turn_keysN _ hdt) ⟨_, Heap.get?_push_size _ rfl, rfl, ?_⟩ q)
  rw [hsz] <;> rfl
end
end PL
set_option Elab.async false
set_option linter.all false
set_option maxRecDepth 100000
set_option maxHeartbeats 2000000
set_option Elab.async false
set_option linter.all false
set_option maxRecDepth 100000
set_option maxHeartbeats 2000000
namespace PL
open PySem PySem.Spec PyProof.Rows L2 NdefX
structure SupI (P : Program) (K : PySem.W.Frag) (C fI : Addr) (qual : Str) (params : Arguments) (body : List Stmt) (scope : Scope) (fd : FuncData) (fld : Str) : Prop where
  ex : ∃ (oc : Value) (od : Option Addr) (kV doc pm ct : Value) (an : Option Addr) (osl : Array (Option Value)) (cda cc : Addr),
    fd = PySem.W.fnX "__init__" qual params body scope [("__class__", cc)] .none kV doc pm an (.ref cda) ct ∧ K.lookup fI = some ⟨oc, od, .func fd, osl⟩ ∧ PySem.W.codeIn K (.ref cda) qual = true ∧
    (∃ (ccl : Value) (cdd : Option Addr) (vs : Array Value) (ccs : Array (Option Value)) (file : Str) (tf : Tok), K.lookup cda = some ⟨ccl, cdd, .fields vs, ccs⟩ ∧ vs[2]? = some (.str file tf) ∧ ((P.main.file : Str) == file) = true) ∧
    (∃ (cl : Value) (cld : Option Addr) (csl : Array (Option Value)), K.lookup cc = some ⟨cl, cld, .cell (some (.ref C)), csl⟩)
  T : OexC K C
  sup : PySem.W.nsIn K mainGlobals "super" = some none
  tp : PySem.W.nsIn K PySem.cStatics "thirdparty.any" = some none
  si : PySem.W.ks_superIn K C C "__init__" = some (some (.builtin "ValueError.__init__"))
  sv : PySem.W.subIn K (.ref C) (.type "ValueError") = some true
  mc : PySem.W.mroIn K C (.ref C) = some true
  no : PySem.W.findIn K (.ref C) fld = some none
def spInit (C : Addr) (fld : Str) : Sp := fun vs H Q _ => ∃ (a : Addr) (y : V), vs = [.ref a, y] ∧ H a = some (exo a C none) ∧ ∀ dx, H dx = none → dx ≠ a → Q .non (upd (upd H dx (exd dx [(fld, y)])) a (exo a C (some dx)))
theorem boot_super : bootBuiltins "super" = some (.type "super") := by decide +kernel
theorem init_ok {P : Program} {w : World} {K : PySem.W.Frag} {mg : Str → Option Value} {base : Heap} {C fI : Addr} {qual m fld vn : Str} {params : Arguments} {scope : Scope} {fd : FuncData} {ar : Arg} {j : Nat} {p0 p1 p2 p3 p4 p5 p6 p7 p8 p9 : Pos}
    (S : SupI P K C fI qual params [.Expr (.Call (.Attribute (.Call (.Name "super" p0) [] [] p1) "__init__" p2) [.Constant (.str m) j p3] [] p4) p5, .Assign [.Attribute (.Name "self" p6) fld p7] (.Name vn p8) p9] scope fd fld)
    (hp : (params.posonlyargs ++ params.args).head? = some ar) (har : ar.arg = "self") (sc : NScope ["self", vn, "__class__"] ["self", vn] ["__class__"] scope) (ks : scope.names.lookup ("super" : Str) = some .globalImplicit)
    (htop : (P.main.scope.names.lookup ("super" : Str)).isSome = false) (hev : ∀ (L f cda cc : Addr), ∃ pl : Sem Bool, eval (.Call (.Attribute (.Call (.Name "super" p0) [] [] p1) "__init__" p2) [.Constant (.str m) j p3] [] p4) (PySem.W.envX qual scope L f (.ref cda) [("__class__", cc)]) = (do
      let ov ← attributeBase (.Call (.Name "super" p0) [] [] p1) "__init__" (PySem.W.envX qual scope L f (.ref cda) [("__class__", cc)]) (eval (.Call (.Name "super" p0) [] [] p1) (PySem.W.envX qual scope L f (.ref cda) [("__class__", cc)]))
      standAt p2.atName
      let (g, first) ← holding [ov] (getMethod ov "__init__" pl)
      callWith p4 g first (backTo p4 (starEach [.Constant (.str m) j p3] (PySem.W.envX qual scope L f (.ref cda) [("__class__", cc)]))) []))
    (d1 : (vn == ("__debug__" : Str)) = false) (d2 : (vn == ("__classdict__" : Str)) = false) : FnOk P w K mg base (L2.CX P w) 1 fI fd ["self", vn] (spInit C fld) := by
  obtain ⟨oc, od, kV, doc, pm, ct, an, osl, cda, cc, rfl, lk, hcd, ⟨ccl, cdd, vsC, ccs, file, tf, hcode, hvs, hfile⟩, cl, cld, csl, hcell⟩ := S.ex
  refine ⟨fun vs H Q E h => by obtain ⟨a, y, rfl, _⟩ := h; rfl, fun A outer s H args us vs Q E hr e0 hb r hsp => ?_⟩
  obtain ⟨a, y, rfl, ha, hq⟩ := hsp
  have KX : K.In s.heap := e0.mod.kin.keeps fun b o e => (e0.bs b o e).1
  have lim : s.heap.NoLimit := e0.mod.nolimit.keeps fun b o e => (e0.bs b o e).1
  refine ks_codeAny_call_defAt hr.depth (KX _ _ lk) rfl lim (PySem.W.codeRec_of KX hcd) rfl hb (fun z hz => sc.nocell z hz) (fun z hz => sc.par _ (List.of_mem_zip (show (z.1, z.2) ∈ _ from hz)).1) (fun h₀ hns kp => ?_) sc.co sc.gen sc.kind
  have CA : CellsAt [("__class__", cc)] ["__class__"] [none] s.heap H := {
    len := rfl
    all := fun z c hz => by
      have ez : c = cc := by
        by_cases q : z = "__class__"
        · subst q; exact (Option.some.inj hz).symm
        · rw [List.lookup_cons, beq_eq_false_iff_ne.mpr q] at hz; cases hz
      rw [ez]
      obtain ⟨e1, e2⟩ := e0.bs _ _ (e0.mod.kin _ _ hcell)
      exact ⟨e2, _, _, e1, rfl⟩
    inj := fun z1 z2 c h1 h2 => by
      have f : ∀ {z : Str}, List.lookup z [(("__class__" : Str), cc)] = some c → z = "__class__" := fun {z} hz => by
        by_cases q : z = "__class__"
        · exact q
        · rw [List.lookup_cons, beq_eq_false_iff_ne.mpr q] at hz; cases hz
      rw [f h1, f h2]
    has := fun i z hi => by
      cases i with
      | zero =>
        simp at hi
        subst hi
        exact ⟨cc, rfl, fun v hv => by simp at hv⟩
      | succ i => simp at hi }
  let F : NF := ⟨"__init__", qual, params, [.Expr (.Call (.Attribute (.Call (.Name "super" p0) [] [] p1) "__init__" p2) [.Constant (.str m) j p3] [] p4) p5, .Assign [.Attribute (.Name "self" p6) fld p7] (.Name vn p8) p9], scope, [("__class__", cc)], cda⟩
  let X : Cx := ncx (L2.CX P w) P w K mg base ["self", vn, "__class__"] F fI A outer s H E
  have I : Inv X [] (startF ["self", vn, "__class__"] [.ref a, y] [none]) H { s with heap := h₀, toks := s.toks + ((["self", vn] : List Str).zip us).length } :=
    inv_startN (F := F) sc hr.hd e0 rfl r CA hns kp
  have hv0 : Vis X.env.scope ("self" : Str) := .inl (sc.par _ (by simp))
  have hv1 : Vis X.env.scope vn := .inl (sc.par _ (by simp))
  show _root_.PySem.wpAt (model X.prog X.w) X.A (.func F.body X.env) (execs F.body X.env) _ X.xe _
  have fin : ∀ s', Inv X [] (startF ["self", vn, "__class__"] [.ref a, y] [none]) H s' → wpAny (model X.prog X.w) X.A (execs [.Assign [.Attribute (.Name "self" p6) fld p7] (.Name vn p8) p9] X.env)
      (fun f s' => CR (L2.CX P w) outer P w H s Q E (.ok (.ret (match f with | .ret v => v | _ => .none))) s') X.xe s' := fun s' I' => by
    refine wpAny_mono ((pss_one (ps_ost (X := X) (f := fld) (p' := p7) (pos := p9) (pe_var (X := X) (i := 0) (pos := p6) rfl hv0) (pe_var (X := X) (i := 1) (pos := p8) rfl hv1 d1 d2))).run [] s' _ H { nx := fun _ H' => Q .non H', rt := fun _ _ => False } I' ?_) (fun f s'' hs => ?_) fun _ _ z => z
    · refine ⟨y, rfl, .ref a, rfl, a, C, rfl, S.T, S.no, .inl ⟨ha, fun dx h1 h2 => hq dx h1 h2⟩⟩
    · cases f with
      | next =>
        obtain ⟨σ', H', J, q⟩ := hs
        exact ⟨.non, H', J.os, J.bare, J.base, J.hok, rfl, q⟩
      | ret u => obtain ⟨v, σ', H', J, rv, q⟩ := hs; exact q.elim
      | brk => obtain ⟨_, _, _, q⟩ := hs; exact False.elim q
      | cont => obtain ⟨_, _, _, q⟩ := hs; exact False.elim q
  obtain ⟨cd, hcl⟩ : ∃ cd, PySem.W.clsIn K C = some cd := by
    cases hc : PySem.W.clsIn K C with
    | none => have z := S.si; unfold PySem.W.ks_superIn at z; rw [hc] at z; cases z
    | some cd => exact ⟨cd, rfl⟩
  have hsi : PySem.W.alongIn K "__init__" ((cd.mro.dropWhile (· != .ref C)).drop 1) = some (some (.builtin "ValueError.__init__")) := by
    have z := S.si; unfold PySem.W.ks_superIn at z; rw [hcl] at z; exact z
  have KI : ∀ {s' : Shared}, Inv X [] (startF ["self", vn, "__class__"] [.ref a, y] [none]) H s' → K.In s'.heap := fun I' => I'.kIn
  have oC : ∃ oD : Obj, K.lookup C = some oD ∧ oD.data = .cls cd := by
    unfold PySem.W.clsIn at hcl
    split at hcl
    · rename_i c d cd' sl ho
      cases hcl
      exact ⟨_, ho, rfl⟩
    · cases hcl
  obtain ⟨oD, hD, hDd⟩ := oC
  have mgS : X.mg "super" = none := PySem.W.mg_none_of e0.mod.kin e0.mod.glob S.sup
  obtain ⟨pl, hev⟩ := hev s.heap.objs.size fI cda cc
  refine ks_wpAt_execs_cons (ks_wpAt_Expr_any ?_ (by show (scope.kind == .module && _) = false; rw [sc.kind]; rfl))
  refine ks_wpAt_MethodCall (pl := pl) ?_ hev
  generalize hs0 : ({ s with heap := h₀, toks := s.toks + ((["self", vn] : List Str).zip us).length } : Shared) = s0 at I ⊢
  refine ks_wpAt_super_base (env := X.env) ks (sc.frk _ (by simp)) (by decide) rfl (KI I _ _ lk) rfl hp rfl (KI I _ _ hcode) rfl hvs hfile htop ?_
  obtain ⟨mb, hb1, hb2⟩ := I.mod.blt
  refine PySem.W.ks_loadName_global sc.kind ks (Calls.loadGlobal_builtin (env := X.env) (I.mod.glob.keeps I.bk) mgS (hb1.keeps I.bk) ((hb2 _ (by decide)).trans boot_super) ⟨rfl, ?_⟩)
  refine wpAny_loadName_free sc.kind (sc.frk _ (by simp)) rfl ⟨_, KI I _ _ hcell, rfl⟩ ?_
  obtain ⟨ml, hml, hlv⟩ := I.loc
  obtain ⟨u0, ru0, lu0⟩ := hlv 0 "self" (.ref a) rfl rfl hv0
  obtain rfl : u0 = Value.ref a := ru0
  have hself : ml "self" = some (.ref a) := by
    rcases lu0 with ⟨_, h⟩ | ⟨hk, _⟩
    · exact h
    · have z : scope.names.lookup ("self" : Str) = some .local := sc.par _ (by simp)
      rcases hk with hk | hk <;> (have hk' : scope.names.lookup ("self" : Str) = _ := hk; rw [z] at hk'; cases hk')
  rw [har]
  refine wpAny_loadName_local sc.kind (sc.par _ (by simp)) hml hself ?_
  obtain ⟨hp0, g0, d0, t0, os0⟩ := s0
  have hDh := KI I _ _ hD
  refine ks_wpAny_isType_cls hDh hDd ⟨rfl, ?_⟩
  obtain ⟨t1, ho⟩ := exo_at I.hok ha
  refine ks_wpAny_call_super hDh hDd ho rfl (fun c e => by cases e) (PySem.W.looks_mroIn (KI I) S.mc) (fun h' eS k => ?_)
  have I1 : Inv X [] (startF ["self", vn, "__class__"] [.ref a, y] [none]) H ⟨h', g0, d0, t0, os0⟩ := I.kept (t' := t0) k
  have IA : PySem.W.InstAt h' a { cls := .ref C, dict := none, data := .fields #[.ref t1, .none, .none, .none, .bool false, .none] } C none := ⟨k _ _ ho, rfl, rfl, trivial⟩
  refine PySem.W.kxs_getMethod PySem.W.kxs_ValueError eS (PySem.W.looks_opaque (KI I1) S.tp) (l₀ := cd.mro) (fun A Q E s k q => wpAny_bind ((PySem.W.looks_clsIn (KI I1) hcl) A _ E s k (wpAny_pure q))) rfl (KI I1) hsi (IA.type.andThen (PySem.W.looks_subIn (KI I1) S.sv)) (PySem.W.ks_ne (KI I1) IA hcl) (by decide) ?_
  have I2 : Inv X [] (startF ["self", vn, "__class__"] [.ref a, y] [none]) H ⟨h'.push (PySem.W.kxs_mw "ValueError.__init__" a), g0, d0, t0 + 1, os0⟩ := I1.kept (t' := t0 + 1) fun b o e => Heap.get?_push_of_some _ e
  have hmw : (h'.push (PySem.W.kxs_mw "ValueError.__init__" a)).get? h'.objs.size = some (PySem.W.kxs_mw "ValueError.__init__" a) := Heap.get?_push_size _ rfl
  refine PySem.W.kxs_callWith (i := "ValueError.__init__") (x := a) rfl (PySem.Calls.evalArgs_plain ?_)
  show wpAny _ _ (spliced ((false, eval (.Constant (.str m) j p3) X.env) :: backTo p4 (starEach [] X.env))) _ _ _
  refine Calls.spliced_cons (Calls.Constant_str (Calls.spliced_nil ⟨hmw, ?_⟩))
  have I3 := I2.tok (t0 + 1 + 1)
  obtain ⟨nm, q, N, bs, bm, sn, sub, ab, col, dd, k0, k1, k2, k3, k5, hC, hbm⟩ := S.T.cls
  obtain ⟨t2, ho2⟩ := exo_at I3.hok ha
  refine wpAny_call (codeAny_of_tree ?_)
  show wpAny _ _ (callAny (.ref h'.objs.size) ⟨_, []⟩) _ _ _
  simp only [callAny]
  refine wpAny_bind (wpAny_load hmw ?_)
  simp only [PySem.W.kxs_mw, show (Value.type "method-wrapper" == Value.type "method" || Value.type "method-wrapper" == Value.type "builtin_function_or_method" || Value.type "method-wrapper" == Value.type "method-wrapper") = true by decide, if_true]
  refine PySem.W.KFB.if_so (by decide) ?_
  refine wpAny_bind (PySem.W.check_bound_init PySem.F.excBase_ValueError.toExcCallFacts (KI I3 _ _ hC) ho2 rfl ?_)
  refine wpAny_bind (wpAny_pure (wpAny_pure ?_))
  refine ⟨plainId_quiet PySem.F.excBase_ValueError.init.plain _, codeAny_builtin PySem.F.excBase_ValueError.initEntry ?_⟩
  refine PySem.W.exc_init_tree (cls := .ref C) (t0 := t2) (dv := none) (c2 := .none) (c3 := .none) (b4 := .bool false) ho2 (by simp [sizeLine_eq]) fun h4 k4 e4 _ => ?_
  have J := I3.write (t' := t0 + 1 + 1) (x := a) (e := a) (o := exo a C none) (by rw [ha]; exact True.intro) (.inl rfl) k4 ⟨_, e4⟩ (exo_ok e4)
  have eu : upd H a (exo a C none) = H := by
    funext b
    by_cases hb : b = a
    · rw [hb, upd_same, ha]
    · rw [upd_ne hb]
  rw [eu] at J
  exact _root_.PySem.wpAt_of_wpAny (fin _ J)
end PL
set_option Elab.async false
set_option linter.all false
set_option maxRecDepth 100000
set_option maxHeartbeats 2000000
namespace PySem.W
open PySem PySem.Spec PySem.Calls PyProof.Rows
section
variable {prog : Program} {w : World} {A : Around} {E : Value → Shared → Prop} {s : Shared} {K : Frag} {x D : Addr} {ox : Obj} {od : Option Obj}
theorem findObj_dataO {C : Addr} {name : Str} {a g : Value} (hc : (clsIn K C).isSome = true) (ha : findIn K (.ref C) name = some (some a))
    (hg : specialIn K a "__get__" = some (some g)) (ht : takesIn K a = some true) :
    findObj K C od name = some (.bind g a) := by
  obtain ⟨cd, hc⟩ := Option.isSome_iff_exists.mp hc
  simp [findObj, hc, ha, hg, ht]
theorem kin_classO (hC : L2.ExcC K D)
    {Q : Option Value → Shared → Prop} (X : K.In s.heap) (I : InstAt s.heap x ox D od)
    (h : Q (some (.ref D)) { s with toks := s.toks + 1 }) :
    wpAny (model prog w) A (getAttr? (.ref x) "__class__") Q E s := by
  have hf : findObj K D od "__class__" = some (.bind (.builtin "getset_descriptor.__get__") (.builtin "object.__class__")) :=
    findObj_dataO (by obtain ⟨cd, hc, _⟩ := any_some hC.hd; rw [hc]; rfl) hC.ha hC.hn hC.ht
  obtain ⟨hp, g, d, t, os⟩ := s
  have T0 := I.type (M := model prog w)
  have T1 := looks_findIn (M := model prog w) X hC.hg
  have T2 := looks_findIn (M := model prog w) X hC.hk
  have T3 := looks_find (M := model prog w) X I hf
  have sub : Looks (model prog w) hp (isInstance (.ref x) (.type "BaseException")) true :=
    T0.andThen (looks_subIn X hC.hs)
  have c0 : (false && onTheHeap (Value.builtin "BaseException.__getattribute__")) = false := rfl
  have c2 : (Value.builtin "BaseException.__getattribute__" ==
      Value.builtin "object.__getattribute__") = false := by decide +kernel
  have c1 : (onTheHeap (Value.ref D) && Value.builtin "BaseException.__getattribute__" ==
      Value.builtin "object.__getattribute__") = false := by rw [c2]; rfl
  unfold getAttr? getAttrBy? getAttrBy
  refine wpAny_bind (wpAny_mkText (wpAny_bind (wpAny_attempt
    (wpAny_holding (wpAny_bind (T0.at (wpAny_bind (T1.at ?_))))))))
  show wpAny _ _ (if (onTheHeap (Value.ref D) &&
    Value.builtin "BaseException.__getattribute__" == Value.builtin "object.__getattribute__") = true then _ else _) _ _ _
  rw [c1, if_neg Bool.false_ne_true]
  unfold getAttrByItsOwn hookBefore
  refine wpAny_bind ?_
  rw [if_pos (show onTheHeap (Value.ref D) = true from rfl)]
  refine T2.at ?_
  refine wpAny_bind (wpAny_attempt (wpAny_holding ?_))
  unfold callGetattribute
  rw [c0, if_neg Bool.false_ne_true]
  unfold boundAndCalled
  rw [PySem.F.excAttr_ValueError.ga.bind (.ref x)]
  refine wpAny_bind (wpAny_pure ?_)
  show wpAny _ _ (call (.builtin "BaseException.__getattribute__")
    [.ref x, .str "__class__" t]) _ _ _
  refine wpAny_call (codeAny_call_builtin PySem.F.excAttr_ValueError.ga.plain
    PySem.F.entry_bexc_ga ?_)
  refine @check_slot (model prog w) _ _ ⟨hp, g, d, t + 1, os⟩
    "BaseException.__getattribute__" "BaseException" "__getattribute__" (.ref x)
    [.str "__class__" t] [] _ (by decide +kernel) (by decide +kernel) sub
    (PySem.F.args_bexc_ga (.ref x) (.str "__class__" t)) ?_
  unfold Builtin.«object.__getattribute__»
  refine wpAny_bind (wpAny_of_eq (a := ((Value.ref x : Value),
    [Value.str "__class__" t])) (by first | rfl | (simp only [slotArgs]; rfl)) ?_)
  refine wpAny_bind (wpAny_pure (wpAny_bind (T0.at (wpAny_bind (T3.at ?_)))))
  show wpAny _ _ (holding [Value.builtin "object.__class__"]
    (call (.builtin "getset_descriptor.__get__")
      [.builtin "object.__class__", .ref x, .ref D]) >>= ret) _ _ _
  refine wpAny_bind (wpAny_holding (wpAny_call
    (class_get (s := ⟨hp, g, d, t + 1, os⟩) (ox := ox) (od := od) X I hC.hm ?_)))
  refine wpAny_pure ?_
  show wpAny _ _ (handedOut (.ref D)) _ _ _
  rw [handedOut_of (v := .ref D) rfl]
  first
    | exact wpAny_pure (wpAny_pure h)
    | exact wpAny_pure h
    | exact wpAny_pure (wpAny_bind (wpAny_pure (wpAny_pure h)))
theorem cls_at {h : Heap} (hd : hasDictIn K D = true) (X : K.In h) :
    ∃ oD cd, h.get? D = some oD ∧ oD.data = .cls cd := by
  obtain ⟨cdD, hcD, _⟩ := any_some hd
  unfold clsIn at hcD
  split at hcD
  · rename_i c' d' cd' sl' ho
    exact ⟨_, _, X _ _ ho, rfl⟩
  · cases hcD
theorem kitx_excO (hC : L2.ExcC K D) : KitX K (.ref x) (.ref D) (fun h => InstAt h x ox D od) where
  ty := fun _ _ _ I => I.type
  it := fun M h X _ => by
    obtain ⟨oD, cd, h1, h2⟩ := cls_at hC.hd X
    obtain ⟨c, d, dt, sl⟩ := oD
    dsimp only at h2
    subst h2
    intro A' Q' E' s' k q
    unfold isType loadHead
    exact wpAny_bind (wpAny_loadPart (k _ _ h1) (wpAny_pure q))
  ne := fun h tp dd its n sl X htp => by
    obtain ⟨oD, cd, h1, h2⟩ := cls_at hC.hd X
    refine Bool.eq_false_iff.mpr fun q => ?_
    have e : D = tp := Value.ref.inj (beq_iff_eq.mp q)
    rw [← e, h1] at htp
    have z := Option.some.inj htp
    rw [z] at h2
    cases h2
  ca := fun X I k => kin_classO hC X I k
end
end PySem.W
namespace PL
open PySem PySem.Spec PyProof.Rows L2 NdefX
open LamX (ExtN Tabs TabS)
/-- isinstance(e, c), e the error that the suite holds, its dict told -/
def rIsO (K : PySem.W.Frag) (D a : Addr) (d : Option Addr) : List V → Hp → VK → Prop := fun xs H Q => ∃ (c : V) (cv : Value) (b : Bool), xs = [.ref a, c] ∧ (∀ u, RelV c u → u = cv) ∧ PySem.W.kitOne K (.ref D) cv = some b ∧
  (∀ dd, d = some dd → ∃ fs, H dd = some (.xd fs)) ∧ Q (.bl b) H
theorem call_isO {X : Cx} {a D : Addr} {oe : Obj} {d : Option Addr} {pn : List (Addr × Obj)} (C : ExcC X.K D) (hz : Zc (.ref D) d oe) (hf : ∃ vs, oe.data = .fields vs) : CallR (X.suite a ((a, oe) :: pn)) (.builtin "isinstance") (rIsO X.K D a d) := by
  intro pins s σ H xs us Q I r h
  obtain ⟨c, cv, b, rfl, hcv, e, hd, q⟩ := h
  cases r with
  | cons rx rr =>
    cases rr with
    | cons rt rr =>
      cases rr
      cases rx
      have ec := hcv _ rt
      subst ec
      obtain ⟨hget, _⟩ := I.pin (a, oe) (List.mem_append.mpr (.inl List.mem_cons_self))
      obtain ⟨vs, hv⟩ := hf
      have J : ∃ od, PySem.W.InstAt s.heap a oe D od := by
        obtain ⟨oc, od, oda, osl⟩ := oe
        obtain ⟨h1, h2⟩ := hz
        dsimp only at h1 h2 hv
        subst h1 h2 hv
        cases od with
        | none => exact ⟨none, hget, rfl, rfl, trivial⟩
        | some dd =>
          obtain ⟨fs, hx⟩ := hd dd rfl
          have hx : ObjOk X.prog X.w H s.heap dd (.xd fs) := I.hok dd _ hx
          obtain ⟨mA, ⟨o, es, ep, ho, _⟩, _⟩ := hx
          exact ⟨some o, hget, rfl, rfl, ho⟩
      obtain ⟨od, J⟩ := J
      exact PySem.W.kia_one (PySem.W.kitx_excO C) I.kIn J e (fun z => nomatch z) fun tk => ⟨.bl b, H, I.kept (t' := tk) fun _ _ z => z, rfl, q⟩
section
variable {T : Tb} {X : Cx} {W : WX} {pos p pos' p1 p2 : Pos} {e a b c : Expr} {es : List Expr} {K : PySem.W.Frag} {G G2 : Gh} {ρ ρ2 : En} {σ σ2 : L2.St} {H H' : Hp} {D : Ends}
theorem SupI.binds {P : Program} {C fI : Addr} {qual fld : Str} {params : Arguments} {body : List Stmt} {scope : Scope} {fd : FuncData} {ps : List Str} (S : SupI P K C fI qual params body scope fd fld)
    (h : ∀ (cl : List (Str × Addr)) (kV doc pm : Value) (an : Option Addr) (cv ct : Value) (us : List Value), us.length = ps.length → bindArgs (PySem.W.fnX "__init__" qual params body scope cl .none kV doc pm an cv ct) ⟨us, []⟩ = pure (ps.zip us)) : Binds K fd ps [] := by
  obtain ⟨oc, od, kV, doc, pm, ct, an, osl, cda, cc, rfl, _⟩ := S.ex
  exact Binds.all fun us hl => h _ _ _ _ _ _ _ us hl
def sRaiseF (C : Addr) (fld : Str) (w : PW) : SW := fun ρ D => w ρ (fun d => D.ex ⟨C, some (fld, d)⟩) D.ex
theorem ds_raiseF {k : Nat} {C fI : Addr} {x fld : Str} {ps : List Str} {fd : FuncData} {w : PW} (hc : X.calm = true) (tk : Takes X W) (T0 : OexC X.K C) (F : FnOk X.prog X.w X.K X.mg X.base (L2.CX X.prog X.w) k fI fd ps (spInit C fld)) (iC : PySem.W.findIn X.K (.ref C) "__init__" = some (some (.ref fI))) (tI : PySem.W.typeIn X.K (.ref fI) = some (.type "function"))
    (hr : Room (k + 1) X.A) (hb : Binds X.K fd ps []) (hg : Gl X x) (hm : X.mg x = some (.ref C)) (h : DE T X W e w) (hdb : (x == ("__debug__" : Str)) = false := by decide) (he : starEach [e] X.env = (false, eval e X.env) :: starEach [] X.env := by rfl) :
    DS T X W (.Raise (some (.Call (.Name x p) [e] [] pos')) none pos) (sRaiseF C fld w) :=
  ⟨ps_mono (ps_raise hc tk (pmk_oex (CX := L2.CX X.prog X.w) (sp := spInit C fld) (dvs := []) (ds := []) T0 iC tI F hr hb .nil (fun pins σ H s e s' I z => passes_call (E := fun _ _ _ => False) tk (fun _ _ _ _ z => z.elim) pins σ H s e s' I z) hg hm (pa_cons h.pe pa_nil he) hdb he rfl)) fun D σ H q => by
    obtain ⟨G, ρ, r, fa, q⟩ := q
    refine ⟨G, ρ, r, h.mono _ _ _ _ _ (fun d hd v H1 r1 a1 => ?_) (fun _ z => ex_out' z) q⟩
    refine ⟨by simp, fun a hn => ⟨a, v, rfl, upd_same, fun dx hdx hne => ⟨rfl, dx, [(fld, v)], upd_same, ?_, ?_, ?_⟩⟩⟩
    · rw [upd_ne hne, upd_same]
    · rw [upd_ne hne] at hdx; exact hdx
    · rw [upd_ne hne] at hdx
      have eH : upd (del (upd (upd (upd H1 a (exo a C none)) dx (exd dx [(fld, v)])) a (exo a C (some dx))) a) dx (.xd [(fld, v)]) = upd H1 dx (.xd [(fld, v)]) := by
        funext b
        by_cases h1 : b = dx
        · rw [h1, upd_same, upd_same]
        · rw [upd_ne h1, upd_ne h1]
          by_cases h2 : b = a
          · rw [h2, del_same, hn]
          · rw [del_ne h2, upd_ne h2, upd_ne h1, upd_ne h2]
      rw [eH]
      obtain ⟨r2, e2, np, h2⟩ := r1.new (o := .xd [(fld, v)]) hdx
      exact hd ρ σ _ G.O _ _ r2 ⟨rfl, dx, v, rfl, h2, a1.ext e2⟩, fun ρ D D' l q => h.mono _ _ _ _ _ (fun d hd => l.ex _ hd) l.ex q⟩
end
end PL
set_option Elab.async false
set_option linter.all false
set_option maxRecDepth 100000
set_option maxHeartbeats 2000000
namespace PL
open PySem PySem.Spec PyProof.Rows L2
open LamX (ExtN Tabs TabS)
end PL
set_option Elab.async false
set_option linter.all false
set_option maxRecDepth 100000
set_option maxHeartbeats 2000000
namespace PL
open PySem PySem.Spec PyProof.Rows L2
open LamX (ExtN Tabs TabS)
end PL
set_option Elab.async false
set_option linter.all false
set_option maxRecDepth 100000
set_option maxHeartbeats 2000000
namespace PL
open PySem PySem.Spec PyProof.Rows L2
open LamX (ExtN Tabs TabS)
end PL
set_option Elab.async false
set_option linter.all false
set_option maxRecDepth 100000
set_option maxHeartbeats 2000000
namespace PL
open PySem PySem.Spec PyProof.Rows L2
open LamX (ExtN Tabs TabS)
section
variable {T : Tb} {X : Cx} {W : WX} {pos p apos cpos : Pos} {e a b c : Expr} {K : PySem.W.Frag} {G : Gh} {ρ ρ2 : En} {σ σ2 : L2.St} {H H' : Hp}
def signsD (x : Str) : List PyData := x.cps.toList.map fun c => .str ⟨#[c]⟩
end
end PL
set_option Elab.async false
set_option linter.all false
set_option maxRecDepth 100000
set_option maxHeartbeats 2000000
namespace PL
open PySem PySem.Spec PyProof.Rows L2
open LamX (ExtN Tabs TabS)
end PL
set_option Elab.async false
set_option linter.all false
set_option maxRecDepth 100000
set_option maxHeartbeats 2000000
namespace PL
open PySem PySem.Spec PyProof.Rows L2
open LamX (ExtN Tabs TabS)
section
variable {T : Tb} {X : Cx} {W : WX} {pos p p2 pos' pos2 apos cpos : Pos} {e a b c : Expr} {K : PySem.W.Frag} {G : Gh} {ρ ρ2 : En} {σ σ2 : L2.St} {H H' : Hp}
mutual
theorem reads_there {h : Heap} : ∀ {v : Value} {d : PyData} {as : List Addr}, Reads h v d as → ∀ a ∈ as, ∃ o, h.get? a = some o
  | _, _, _, .none, a, ha => by cases ha
  | _, _, _, .bool b, a, ha => by cases ha
  | _, _, _, .int i t, a, ha => by cases ha
  | _, _, _, .str x t, a, ha => by cases ha
  | _, _, _, .list h1 h2 h3 h4, a, ha => by
    rcases List.mem_cons.mp ha with rfl | ha
    · exact ⟨_, h1⟩
    · exact readsAll_there h4 a ha
  | _, _, _, .tuple h1 h2 h3 h4, a, ha => readsAll_there h4 a ha
  | _, _, _, .dict h1 h2 h3 h4 h5, a, ha => by
    rcases List.mem_append.mp ha with ha | ha
    · rcases List.mem_cons.mp ha with rfl | ha
      · exact ⟨_, h1⟩
      · exact readsAll_there h4 a ha
    · exact readsAll_there h5 a ha
theorem readsAll_there {h : Heap} : ∀ {vs : List Value} {ds : List PyData} {as : List Addr}, ReadsAll h vs ds as → ∀ a ∈ as, ∃ o, h.get? a = some o
  | _, _, _, .nil, a, ha => by cases ha
  | _, _, _, .cons h1 h2, a, ha => by
    rcases List.mem_append.mp ha with ha | ha
    · exact reads_there h1 a ha
    · exact readsAll_there h2 a ha
end
def fSortedT : PyData → (PyData → Prop) → Prop
  | .tuple xs, Q => (PyData.plainAll xs = true ∧ (∀ d ∈ xs, d.depth ≤ 30) ∧ PySem.W.AllAlike xs ∧ PySem.W.Sortable xs) ∧ Q (.list (xs.mergeSort (PySem.W.dataLe false id)))
  | _, _ => False
theorem mono_sortedT : MonoF1 fSortedT := fun x Q Q' hq h => by
  unfold fSortedT at h ⊢
  split at h
  · exact ⟨h.1, hq _ h.2⟩
  · exact h
theorem each_readsX {pins : List (Addr × Obj)} {σ' : L2.St} {s : Shared} {O : List Addr} (I : Inv X pins σ' H s) : ∀ {vs : List V} {us : List Value} {ds : List PyData}, Vals vs us → DaAll X.K (hide O H) vs ds → PyData.plainAll ds = true → PySem.W.EachIs (fun u d => ∃ as, Reads s.heap u (id d) as) us ds
  | _, _, _, .nil, .nil, _ => .nil
  | _, _, _, .cons r rs, .cons h hs, p => by
    simp only [PyData.plainAll, Bool.and_eq_true] at p
    exact .cons (Dp.reads I _ _ _ (h.whole.dp p.1) r) (each_readsX I rs hs p.2)
theorem cf_sortedT {k : Nat} (hr : Room k X.A) : CallF T X (.builtin "sorted") fSortedT := by
  intro pins s σ0 H xs us Q I rx q
  obtain ⟨x, G, ρ, σ, d, rfl, r, t, q⟩ := q
  have hu := hr.un
  unfold fSortedT at q
  cases rx with
  | cons r1 r2 =>
    cases r2
    split at q
    · rename_i ds
      obtain ⟨⟨pl, dp, al, so⟩, q⟩ := q
      obtain ⟨a, vs, rfl, _, ha, hx⟩ := t.tup
      cases r1
      obtain ⟨its, rv, pl', hz⟩ := I.tuple ha
      obtain ⟨o, ho, hc, n, hdat⟩ := pl'
      have hil : its.length = ds.length := by rw [← rv.length, hx.length]
      refine Calls.call_function_entry kind_sorted plain_sorted entry_sorted (args_sorted1 _) ?_
      unfold Builtin.«sorted»
      refine wpAny_bind (m := checkCount "sorted" 1 1 _) (wpAny_pure (wpAny_bind (wpAny_collect_seq (A := X.A.in1) a (.inr rfl) ho hc hdat (fun h' hk => ?_) (by rw [List.size_toArray, ← rv.length]; exact hz))))
      have hL : its.length ≤ sizeLine := by rw [← rv.length]; exact hz
      show wpAny _ _ (newList its >>= _) _ _ _
      refine wpAny_bind (wpAny_newList ?_ hL)
      have hoL : (h'.push (seqObj "list" its.toArray 0)).get? h'.objs.size = some (seqObj "list" its.toArray 0) := Heap.get?_push_size _ rfl
      have Ia : Inv X pins σ0 H { s with heap := h' } := I.kept (t' := s.toks) hk
      have er := each_readsX I rv hx pl
      have er' : PySem.W.EachIs (fun u d => ∃ as, Reads (h'.push (seqObj "list" its.toArray 0)) u (id d) as ∧ h'.objs.size ∉ as) its ds := by
        refine er.mono fun u d ⟨as, hr⟩ => ⟨as, PyProof.Rows.Reads.keeps (fun b o e => Heap.get?_push_of_some _ (hk b o e)) hr, fun z => ?_⟩
        obtain ⟨o', e'⟩ := reads_there hr _ z
        exact absurd (Heap.lt_size (hk _ _ e')) (Nat.lt_irrefl _)
      refine wpAny_bind (wpAny_holding (PySem.W.list_sort_data (enc := id) (R := fun u d => ∃ v, RelV v u ∧ Da X.K (hide G.O H) v d) hoL (each_da rv hx) er' (by rw [List.map_id]; exact al) (by rw [List.map_id]; exact so) (by rw [← hil]; exact hL) (fun b hb => by have := dp b hb; show X.A.units + 1 + 1 + b.depth < _; omega) fun out hl eo => ?_))
      obtain ⟨ws, rw', hw⟩ := each_out eo
      obtain ⟨ep, he'⟩ := sortedHeap_at (vs := its) (out := out.toArray) hoL
      have hn : H h'.objs.size = none := Ia.hok.fresh (Nat.le_refl _)
      have hlen : ws.length ≤ sizeLine := by rw [rw'.length, hl, ← hil]; exact hL
      obtain ⟨r2, na, ap, h1, h2⟩ := r.newL hn hw
      have kS : ∀ b o, h'.get? b = some o → (sortedHeap (h'.push (seqObj "list" its.toArray 0)) h'.objs.size its out.toArray).get? b = some o := fun b o e2 => by
        rw [sortedHeap_old (Nat.ne_of_lt (Heap.lt_size e2)) (by rw [size_push']; exact Nat.lt_succ_of_lt (Heap.lt_size e2))]
        exact Heap.get?_push_of_some _ e2
      exact wpAny_pure ⟨_, rfl, .ref _, upd H h'.objs.size (.lst ws), Ia.laid (t' := s.toks) kS (Nat.le_refl _) ⟨hlen, out, ep, rw', he'⟩, rfl, q _ _ _ _ rfl r2 na ap h1 h2⟩
    · exact q.elim
end
end PL
set_option Elab.async false
set_option linter.all false
set_option maxRecDepth 100000
set_option maxHeartbeats 2000000
namespace PL
open PySem PySem.Spec PyProof.Rows L2
open LamX (ExtN Tabs TabS)
end PL
set_option Elab.async false
set_option linter.all false
set_option maxRecDepth 100000
set_option maxHeartbeats 2000000
namespace PL
open PySem PySem.Spec PyProof.Rows L2
open LamX (ExtN Tabs TabS)
end PL
set_option Elab.async false
set_option linter.all false
set_option maxRecDepth 100000
set_option maxHeartbeats 2000000
namespace PL
open PySem PySem.Spec PyProof.Rows L2
open LamX (ExtN Tabs TabS)
end PL
set_option Elab.async false
set_option linter.all false
set_option maxRecDepth 100000
set_option maxHeartbeats 2000000
namespace PL
open PySem PySem.Spec PyProof.Rows L2
open LamX (ExtN Tabs TabS)
section
variable {T : Tb} {X : Cx} {W : WX} {pos p p2 pos' pos2 apos cpos : Pos} {e a b c : Expr} {st : Stmt} {K : PySem.W.Frag} {G : Gh} {ρ ρ2 : En} {σ σ2 : L2.St} {H H' : Hp}
theorem de_gstr {x y : Str} (hg : Gl X x) (hm : ∃ t, X.mg x = some (.str y t)) (hd : (x == ("__debug__" : Str)) = false := by decide) : DE T X W (.Name x pos) (wC (.str y)) :=
  ⟨by
    obtain ⟨t, hm⟩ := hm
    exact pe_mono (pe_glob (v := .str y) hg hm ⟨t, rfl⟩ hd) fun σ H Q q => by
      obtain ⟨G, ρ, r, q⟩ := q
      exact q (.str y) H r (.str y), fun _ _ _ _ _ hq _ h => hq _ h⟩
def fIntT : PyData → (PyData → Prop) → Prop
  | .str x, Q => ∃ n, PySem.intText? x = some n ∧ x.length ≤ 640 ∧ Q (.int n)
  | .int i, Q => Q (.int i)
  | .bool k, Q => Q (.int (if k then 1 else 0))
  | _, _ => False
theorem mono_intT : MonoF1 fIntT := fun x Q Q' hq h => by
  unfold fIntT at h ⊢
  split at h
  · obtain ⟨n, h1, h2, h3⟩ := h
    exact ⟨n, h1, h2, hq _ h3⟩
  · exact hq _ h
  · exact hq _ h
  · exact h
theorem cd_intT : CallD T X (.type "int") fIntT := by
  intro pins s σ0 H xs us Q I rx q
  obtain ⟨x, G, ρ, σ, d, rfl, r, t, q⟩ := q
  unfold fIntT at q
  split at q
  · obtain ⟨n, h1, h2, h3⟩ := q
    obtain rfl := t.str
    exact call_int_str pins s σ0 H _ us Q I rx ⟨_, n, rfl, h1, h2, h3 _ H r (.int n)⟩
  · obtain rfl := t.int
    exact call_int1 pins s σ0 H _ us Q I rx (.inl ⟨_, rfl, q _ H r (.int _)⟩)
  · cases t with
    | sh h => cases h with
      | bl k => exact call_int1 pins s σ0 H _ us Q I rx (.inr ⟨_, rfl, q _ H r (.int _)⟩)
  · exact q.elim
end
end PL
set_option Elab.async false
set_option linter.all false
set_option maxRecDepth 100000
set_option maxHeartbeats 2000000
namespace PL
open PySem PySem.Spec PyProof.Rows L2
open LamX (ExtN Tabs TabS)
end PL
set_option Elab.async false
set_option linter.all false
set_option maxRecDepth 100000
set_option maxHeartbeats 2000000
namespace PL
open PySem PySem.Spec PyProof.Rows L2
open LamX (ExtN Tabs TabS)
section
variable {T : Tb} {X : Cx} {W : WX} {pos p p2 pos' pos2 apos cpos : Pos} {e a b c d : Expr} {st : Stmt} {K : PySem.W.Frag} {G : Gh} {ρ ρ2 : En} {σ σ2 : L2.St} {H H' : Hp} {ta tb tc td : TE}
def tChain3 (r r' r'' : R2) (ta tb tc td : TE) : TE := fun σ H Q => ta σ H fun x H1 => tb σ H1 fun y H2 => r x y H2 fun z H3 => ∃ k, z = .bl k ∧
  (if k = true then tc σ H3 fun w' H4 => r' y w' H4 fun z' H5 => ∃ k', z' = .bl k' ∧ (if k' = true then td σ H5 fun u' H6 => r'' w' u' H6 Q else Q (.bl false) H5) else Q (.bl false) H3)
theorem pe_chain3 {op op' op'' : CmpOp} {r r' r'' : R2} (ho : OpR X (compareOp op) r) (ho' : OpR X (compareOp op') r') (ho'' : OpR X (compareOp op'') r'') (ha : PE X a ta) (hb : PE X b tb) (hc : PE X c tc) (hd : PE X d td)
    (hm : lastMarks [op, op', op''] [b, c, d] = false := by with_unfolding_all rfl) : PE X (.Compare a [op, op', op''] [b, c, d] pos) (tChain3 r r' r'' ta tb tc td) := by
  refine ⟨fun pins s σ H Q I h => ?_⟩
  refine Compare_chain (thn (ha.run pins s σ H _ I h) fun v s1 ⟨x, H1, I1, r1, q1⟩ => chain_link (thn (hb.run pins s1 σ H1 _ I1 q1) fun u s2 ⟨y, H2, I2, r2, q2⟩ =>
    thn (ho pins s2 σ H2 x y v u _ I2 r1 r2 q2) fun d s3 ⟨z, H3, I3, r3, k, e, q3⟩ => ?_)) hm
  subst e
  cases r3
  refine wpAny_truthy_bool ?_
  cases k with
  | false => exact ite_ff ⟨.bl false, H3, I3, rfl, q3⟩
  | true =>
    refine ite_tt (chain_link (thn (hc.run pins s3 σ H3 _ I3 q3) fun w' s4 ⟨z', H4, I4, r4, q4⟩ => thn (ho' pins s4 σ H4 y z' u w' _ I4 r2 r4 q4) fun d' s5 ⟨z5, H5, I5, r5, k', e', q5⟩ => ?_))
    subst e'
    cases r5
    refine wpAny_truthy_bool ?_
    cases k' with
    | false => exact ite_ff ⟨.bl false, H5, I5, rfl, q5⟩
    | true => exact ite_tt (chain_last (thn (hd.run pins s5 σ H5 _ I5 q5) fun w6 s6 ⟨z6, H6, I6, r6, q6⟩ => ho'' pins s6 σ H6 z' z6 w' w6 Q I6 r4 r6 q6))
def wCh3 (f g h : PyData → PyData → (PyData → Prop) → Prop) (wa wb wc wd : PW) : PW := fun ρ Q E => wa ρ (fun x => wb ρ (fun y => f x y fun z => match z with
  | .bool true => wc ρ (fun w => g y w fun z' => match z' with
    | .bool true => wd ρ (fun u => h w u Q) E
    | .bool false => Q (.bool false)
    | _ => False) E
  | .bool false => Q (.bool false)
  | _ => False) E) E
theorem mono_Ch3 {f g h : PyData → PyData → (PyData → Prop) → Prop} {wa wb wc wd : PW} (mf : MonoF f) (mg : MonoF g) (mh : MonoF h) (ma : Mono wa) (mb : Mono wb) (mc : Mono wc) (md : Mono wd) : Mono (wCh3 f g h wa wb wc wd) := fun ρ Q Q' E E' hq he q =>
  ma _ _ _ _ _ (fun x hx => mb _ _ _ _ _ (fun y hy => mf _ _ _ _ (fun z hz => by
    split at hz
    · exact mc _ _ _ _ _ (fun w hw => mg _ _ _ _ (fun z' hz' => by
        split at hz'
        · exact md _ _ _ _ _ (fun u hu => mh _ _ _ _ hq hu) he hz'
        · exact hq _ hz'
        · exact hz'.elim) hw) he hz
    · exact hq _ hz
    · exact hz.elim) hy) he hx) he q
theorem de_chain3 {f g h : PyData → PyData → (PyData → Prop) → Prop} {op op' op'' : CmpOp} {wa wb wc wd : PW} (ho : OpD T X (compareOp op) f) (ho' : OpD T X (compareOp op') g) (ho'' : OpD T X (compareOp op'') h) (mf : MonoF f) (mg : MonoF g) (mh : MonoF h) (ha : DE T X W a wa) (hb : DE T X W b wb) (hc : DE T X W c wc) (hd : DE T X W d wd)
    (hm : lastMarks [op, op', op''] [b, c, d] = false := by with_unfolding_all rfl) : DE T X W (.Compare a [op, op', op''] [b, c, d] pos) (wCh3 f g h wa wb wc wd) :=
  ⟨pe_mono (pe_chain3 ho ho' ho'' ha.pe hb.pe hc.pe hd.pe hm) fun σ H Q q => by
    obtain ⟨G, ρ, r, q⟩ := q
    refine lift_intro ha.mono r (ha.mono _ _ _ _ _ (fun x hx v1 H1 r1 e1 d1 => ?_) (fun _ z => z) q)
    refine lift_intro hb.mono r1 (hb.mono _ _ _ _ _ (fun y hy v2 H2 r2 e2 d2 => ?_) (fun _ z => z) hx)
    refine ⟨⟨hide G.O H2, G.O, G.fl⟩, ρ, σ, x, y, r2.rebase, .sh (d1.ext e2), .sh d2, mf _ _ _ _ (fun z hz v H3 r3 a3 => ?_) hy⟩
    have e3 := r3.ext
    have r3' : Rep T X.K G ρ σ H3 := r3.unbase r2.ext
    cases a3 with
    | bl k =>
      refine ⟨k, rfl, ?_⟩
      cases k with
      | true =>
        refine lift_intro hc.mono r3' (hc.mono _ _ _ _ _ (fun w hw v4 H4 r4 e4 d4 => ?_) (fun _ z => z) hz)
        refine ⟨⟨hide G.O H4, G.O, G.fl⟩, ρ, σ, y, w, r4.rebase, .sh ((d2.ext e3).ext e4), .sh d4, mg _ _ _ _ (fun z' hz' v5 H5 r5 a5 => ?_) hw⟩
        have e5 := r5.ext
        have r5' : Rep T X.K G ρ σ H5 := r5.unbase r4.ext
        cases a5 with
        | bl k' =>
          refine ⟨k', rfl, ?_⟩
          cases k' with
          | true =>
            refine lift_intro hd.mono r5' (hd.mono _ _ _ _ _ (fun u hu v6 H6 r6 e6 d6 => ?_) (fun _ z => z) hz')
            exact ⟨G, ρ, σ, w, u, r6, .sh ((d4.ext e5).ext e6), .sh d6, hu⟩
          | false => exact hz' _ H5 r5' (.bl _)
        | _ => exact hz'.elim
      | false => exact hz _ H3 r3' (.bl _)
    | _ => exact hz.elim, mono_Ch3 mf mg mh ha.mono hb.mono hc.mono hd.mono⟩
end
end PL
set_option Elab.async false
set_option linter.all false
set_option maxRecDepth 100000
set_option maxHeartbeats 2000000
namespace PL
open PySem PySem.Spec PyProof.Rows L2
open LamX (ExtN Tabs TabS)
end PL
set_option Elab.async false
set_option linter.all false
set_option maxRecDepth 100000
set_option maxHeartbeats 2000000
namespace PL
open PySem PySem.Spec PyProof.Rows L2
open LamX (ExtN Tabs TabS)
end PL
set_option Elab.async false
set_option linter.all false
set_option maxRecDepth 100000
set_option maxHeartbeats 2000000
namespace PL
open PySem PySem.Spec PyProof.Rows L2 KSet
open LamX (ExtN Tabs TabS)
end PL
set_option Elab.async false
set_option linter.all false
set_option maxRecDepth 100000
set_option maxHeartbeats 2000000
namespace PL
open PySem PySem.Spec PyProof.Rows L2
open LamX (ExtN Tabs TabS)
section
variable {T : Tb} {X : Cx} {W : WX} {pos : Pos} {e a b c : Expr} {K : PySem.W.Frag} {G : Gh} {ρ : En} {σ : L2.St} {H H' : Hp}
theorem dt_pc {op : CmpOp} {t : TE} {w : PW} (h : PC X op b a t) (imp : ∀ σ H Q, lift T X.K W w σ H Q → t σ H Q) (m : Mono w) (hm : behindInMarks op a = false) : DT T X W (.Compare b [op] [a] pos) (wT w) :=
  ⟨pt_mono (pt_cmp h hm) fun σ H Q q => by
    obtain ⟨G, ρ, r, q⟩ := q
    refine imp σ H _ ⟨G, ρ, r, m _ _ _ _ _ (fun d hd v H' r' a => ?_) (fun _ z => z) q⟩
    cases a <;> first | exact ⟨_, rfl, hd H' r'⟩ | exact hd.elim, mono_T m⟩
theorem dcin_imp {neg : Bool} {i : Nat} {wk : PW} {t : TE} (mk : Mono wk) (ht : ∀ σ H Q, lift T X.K W wk σ H (fun y H1 => ∃ v, σ[i]? = some (some v) ∧ ∃ (a : Addr) (o : Option V), v = .ref a ∧ DGet H1 a y o ∧ Q (.bl (if neg then !o.isSome else o.isSome)) H1) → t σ H Q) :
    ∀ σ H Q, lift T X.K W (wDIn neg i wk) σ H Q → t σ H Q := fun σ H Q q => by
  refine ht σ H Q ?_
  obtain ⟨G, ρ, r, q⟩ := q
  obtain ⟨s, hd, hs, q⟩ := wDs_elim q
  refine lift_intro mk r (mk _ _ _ _ _ (fun kd hd' y H1 r1 e1 a1 => ?_) (fun _ z => z) q)
  obtain ⟨v, h1, h2⟩ := slot_v r1 hd hs
  unfold dIn at hd'
  split at hd'
  · rename_i o ho
    obtain ⟨a2', o', e', g1, g2, g3⟩ := sl_get h2 a1 ho
    cases e'
    refine ⟨_, h1, _, o', rfl, g2, ?_⟩
    have : o.isSome = o'.isSome := by
      cases o <;> cases o' <;> first | rfl | exact g3.elim
    rw [← this]
    exact hd' _ H1 r1 (.bl _)
  · exact hd'.elim
theorem mono_DIn {neg : Bool} {i : Nat} {wk : PW} (mk : Mono wk) : Mono (wDIn neg i wk) := mono_Ds fun s ρ Q Q' E E' hq he h => mk _ _ _ _ _ (fun d hd => mono_dIn hq hd) he h
theorem dt_dcnin {i : Nat} {wk : PW} {k : Nat} (hr : Room k X.A) (ho : PE X a (tVar i)) (hk : DE T X W b wk) (hm : behindInMarks .NotIn a = false := by rfl) : DT T X W (.Compare b [.NotIn] [a] pos) (wT (wDIn true i wk)) :=
  dt_pc (pc_dnotin (hu_of hr) hk.pe ho) (dcin_imp (neg := true) hk.mono fun σ H Q q => q) (mono_DIn hk.mono) hm
end
end PL
set_option Elab.async false
set_option linter.all false
set_option maxRecDepth 100000
set_option maxHeartbeats 2000000
namespace PL
open PySem PySem.Spec PyProof.Rows L2
open LamX (ExtN Tabs TabS)
theorem no_code {D : Addr} {vs : List NE} {q : Str} (h : NO D vs = LamX.CodeO D q) : False := by
  unfold NO LamX.CodeO at h
  have hf := HO.ext.inj h
  let ob : Obj := { cls := .none, data := .fields #[.none, .str q 0] }
  let hp : Heap := { objs := Array.replicate (D + 1) ob }
  have e : hp.get? D = some ob := by
    unfold Heap.get?
    have : hp.objs[D]? = some ob := by simp [hp]
    rw [this]
  have y : NRaw D vs hp := by
    rw [hf]
    exact ⟨ob, _, 0, e, rfl, rfl⟩
  obtain ⟨_, _, _, _, _, o, es, ep, e2, _, e3, _⟩ := y
  rw [e] at e2
  cases e2
  cases e3
section
variable {T : Tb} {X : Cx} {W : WX} {pos p pos' pos2 apos cpos : Pos} {e a b c : Expr} {st : Stmt} {K : PySem.W.Frag} {G : Gh} {ρ ρ2 : En} {σ σ2 : L2.St} {H H' : Hp} {D : Ends}
theorem TOk.updN {D : Addr} {vs : List NE} {o' : HO} (t : TOk T H) (hD : H D = some (NO D vs)) : TOk T (L2.upd H D o') := t.put hD (fun _ z => by cases z) (fun _ z => by cases z) fun _ z => no_code z
mutual
theorem da_hk {B : Hp} (e : ∀ b o, B b = some o → H b = some o) : ∀ (k : NestedKey) {x : V}, Da K B x k.data → HK H k x
  | .none, x, h => by
    rw [NestedKey.data] at h
    cases h
    exact .none
  | .num i, x, h => by
    rw [NestedKey.data] at h
    cases h
    exact .num i
  | .text s, x, h => by
    rw [NestedKey.data] at h
    cases h
    exact .text s
  | .tup ks, x, h => by
    rw [NestedKey.data] at h
    cases h with
    | tup h1 h2 => exact .tup (.inl (e _ _ h1)) (da_hks e ks h2)
    | ftup h1 _ _ h2 => exact .tup (.inr ⟨_, e _ _ h1⟩) (da_hks e ks h2)
theorem da_hks {B : Hp} (e : ∀ b o, B b = some o → H b = some o) : ∀ (ks : List NestedKey) {xs : List V}, DaAll K B xs (NestedKey.datas ks) → HKs H ks xs
  | [], xs, h => by
    rw [NestedKey.datas] at h
    cases h
    exact .nil
  | k :: ks, xs, h => by
    rw [NestedKey.datas] at h
    cases h with
    | cons h1 h2 => exact .cons (da_hk e k h1) (da_hks e ks h2)
end
/-- a key that such a dict takes: a row, of numbers and rows of such -/
def nkOk : NestedKey → Bool
  | .tup ks => tfs ks && decide ((NestedKey.tup ks).depth ≤ 8)
  | _ => false
theorem nkOk_tf {k : NestedKey} (h : nkOk k = true) : tf k = true ∧ k.depth ≤ 8 := by
  cases k with
  | tup ks =>
    rw [nkOk, Bool.and_eq_true] at h
    exact ⟨by rw [tf]; exact h.1, of_decide_eq_true h.2⟩
  | _ => cases h
theorem nkOk_ref {B : Hp} {k : NestedKey} {x : V} (h : nkOk k = true) (d : Da K B x k.data) : ∃ b, x = .ref b := by
  cases k with
  | tup ks =>
    rw [NestedKey.data] at d
    cases d with
    | tup _ _ => exact ⟨_, rfl⟩
    | ftup _ _ _ _ => exact ⟨_, rfl⟩
  | _ => cases h
theorem daAll_split : ∀ {xs ys : List V} {as bs : List PyData} {B : Hp}, xs.length = as.length → DaAll K B (xs ++ ys) (as ++ bs) → DaAll K B xs as ∧ DaAll K B ys bs
  | [], _, [], _, _, _, h => ⟨.nil, h⟩
  | x :: xs, _, a :: as, _, _, hl, h => by
    cases h with
    | cons h1 h2 =>
      obtain ⟨i1, i2⟩ := daAll_split (Nat.succ.inj hl) h2
      exact ⟨.cons h1 i1, i2⟩
  | [], _, _ :: _, _, _, hl, _ => by cases hl
  | _ :: _, _, [], _, _, hl, _ => by cases hl
/-- the dict of a slot -/
def NSt (K : PySem.W.Frag) (O : List Addr) (H : Hp) (kvs : List (NestedKey × PyData)) (a : Addr) (vs : List NE) : Prop :=
  Rd H a (NO a vs) ∧ vs.map (·.1) = kvs.map (·.1) ∧ DaAll K (hide O H) ((vs.map fun p => .ref p.2.1) ++ vs.map (·.2.2)) ((kvs.map fun p => p.1.data) ++ kvs.map (·.2))
theorem NSt.keys {O : List Addr} {kvs : List (NestedKey × PyData)} {a : Addr} {vs : List NE} (h : NSt K O H kvs a vs) : DaAll K (hide O H) (vs.map fun p => .ref p.2.1) (vs.map fun p => p.1.data) := by
  have e : (kvs.map fun p => p.1.data) = vs.map fun p => p.1.data := by
    have := congrArg (List.map NestedKey.data) h.2.1
    rw [List.map_map, List.map_map] at this
    exact this.symm
  have hl : vs.length = kvs.length := length_of_map h.2.1
  have := (daAll_split (by rw [List.length_map, List.length_map]; exact hl) h.2.2).1
  rwa [e] at this
theorem NSt.vals {O : List Addr} {kvs : List (NestedKey × PyData)} {a : Addr} {vs : List NE} (h : NSt K O H kvs a vs) : DaAll K (hide O H) (vs.map (·.2.2)) (kvs.map (·.2)) := by
  have hl : vs.length = kvs.length := length_of_map h.2.1
  exact (daAll_split (by rw [List.length_map, List.length_map]; exact hl) h.2.2).2
theorem NSt.dict {O : List Addr} {kvs : List (NestedKey × PyData)} {a : Addr} {vs : List NE} (h : NSt K O H kvs a vs) : NDict H a vs := by
  refine ⟨h.1, fun p hp => ?_⟩
  obtain ⟨i, hi⟩ := List.mem_iff_getElem?.mp hp
  obtain ⟨d, h1, h2⟩ := h.keys.get (i := i) (v := .ref p.2.1) (by rw [List.getElem?_map, hi]; rfl)
  rw [List.getElem?_map, hi] at h1
  cases h1
  exact da_hk (fun b o z => (hide_some z).2) _ h2
theorem look_n {k : NestedKey} : ∀ {vs : List NE} {kvs : List (NestedKey × PyData)} {B : Hp}, vs.map (·.1) = kvs.map (·.1) → DaAll K B (vs.map (·.2.2)) (kvs.map (·.2)) →
    (∃ v d, valN vs k = some v ∧ lookK kvs k = some d ∧ Da K B v d) ∨ (valN vs k = none ∧ lookK kvs k = none)
  | [], [], _, _, _ => .inr ⟨rfl, rfl⟩
  | [], _ :: _, _, e, _ => by cases e
  | _ :: _, [], _, e, _ => by cases e
  | p :: r, q :: t, _, e, h => by
    injection e with e1 e2
    cases h with
    | cons h1 h2 =>
      by_cases z : q.1 = k
      · exact .inl ⟨p.2.2, q.2, by simp [valN, List.find?_cons, e1.trans z], by simp [lookK, List.find?_cons, z], h1⟩
      · rw [show valN (p :: r) k = valN r k by
          have : ¬ p.1 = k := fun y => z (e1.symm.trans y)
          simp [valN, List.find?_cons, this], show lookK (q :: t) k = lookK t k by simp [lookK, List.find?_cons, z]]
        exact look_n e2 h2
/-- the slot's dict, own or given up -/
def nSl : Sl → Option (List (NestedKey × PyData))
  | .on kvs => some kvs
  | .sn kvs => some kvs
  | _ => none
theorem slot_n {i : Nat} {s : Sl} {kvs : List (NestedKey × PyData)} (r : Rep T K G ρ σ H) (hd : ρ[i]? = some s) (hs : nSl s = some kvs) : ∃ a vs, σ[i]? = some (some (.ref a)) ∧ NSt K G.O H kvs a vs := by
  obtain ⟨u, h1, h2⟩ := r.slot i s hd
  cases s with
  | on ps =>
    cases hs
    obtain ⟨a, vs, rfl, _, h3, h4, h5⟩ := h2
    exact ⟨a, vs, h1, .inl h3, h4, h5⟩
  | sn ps =>
    cases hs
    obtain ⟨x, rfl, a, ob, vs, rfl, h3, h4, h5⟩ := h2
    exact ⟨a, vs, h1, .inr ⟨ob, (hide_some h3).2⟩, h4, h5⟩
  | _ => cases hs
def wNs (i : Nat) (wk : PW) (F : List (NestedKey × PyData) → NestedKey → (PyData → Prop) → Prop) : PW := fun ρ Q E => match ρ[i]? with
  | some s => match nSl s with
    | some kvs => wk ρ (fun k => ∃ key : NestedKey, k = key.data ∧ nkOk key = true ∧ F kvs key Q) E
    | none => False
  | none => False
theorem wNs_elim {i : Nat} {wk : PW} {F : List (NestedKey × PyData) → NestedKey → (PyData → Prop) → Prop} {Q : PyData → Prop} {E : Exn → Prop} (h : wNs i wk F ρ Q E) : ∃ s kvs, ρ[i]? = some s ∧ nSl s = some kvs ∧ wk ρ (fun k => ∃ key : NestedKey, k = key.data ∧ nkOk key = true ∧ F kvs key Q) E := by
  unfold wNs at h
  split at h
  · split at h
    · exact ⟨_, _, by assumption, by assumption, h⟩
    · exact h.elim
  · exact h.elim
theorem mono_Ns {i : Nat} {wk : PW} {F : List (NestedKey × PyData) → NestedKey → (PyData → Prop) → Prop} (mk : Mono wk) (mF : ∀ kvs key Q Q', (∀ d, Q d → Q' d) → F kvs key Q → F kvs key Q') : Mono (wNs i wk F) := fun ρ Q Q' E E' hq he h => by
  unfold wNs at h ⊢
  split at h
  · split at h
    · exact mk _ _ _ _ _ (fun d ⟨key, h1, h2, h3⟩ => ⟨key, h1, h2, mF _ _ _ _ hq h3⟩) he h
    · exact h
  · exact h
def wNIx (i : Nat) (wk : PW) : PW := wNs i wk fun kvs key Q => ∃ d, lookK kvs key = some d ∧ Q d
def wNIn (neg : Bool) (i : Nat) (wk : PW) : PW := wNs i wk fun kvs key Q => Q (.bool (if neg then !(lookK kvs key).isSome else (lookK kvs key).isSome))
theorem slot_fix {i : Nat} {s : Sl} {v : V} {kvs : List (NestedKey × PyData)} (r : Rep T K G ρ σ H) (hd : ρ[i]? = some s) (hs : nSl s = some kvs) {a : Addr} (hv : σ[i]? = some (some (.ref a))) : ∃ vs, NSt K G.O H kvs a vs := by
  obtain ⟨a', vs, h1, h2⟩ := slot_n r hd hs
  rw [hv] at h1
  cases h1
  exact ⟨vs, h2⟩
theorem de_nix {i : Nat} {wk : PW} {k : Nat} (hr : Room k X.A) (ho : PE X a (tVar i)) (hk : DE T X W b wk) (hs : NoSl b) : DE T X W (.Subscript a b pos) (wNIx i wk) :=
  ⟨pe_mono (pe_nget hr ho hk.pe hs) fun σ H Q q => by
    obtain ⟨G, ρ, r, q⟩ := q
    obtain ⟨s, kvs, hd, hs, q⟩ := wNs_elim q
    obtain ⟨a0, vs0, h1, _⟩ := slot_n r hd hs
    refine ⟨_, h1, lift_intro hk.mono r (hk.mono _ _ _ _ _ (fun d hd' y H1 r1 e1 a1 => ?_) (fun _ z => z) q)⟩
    obtain ⟨key, rfl, ok, d, hl, hq⟩ := hd'
    obtain ⟨vs, st⟩ := slot_fix (v := .ref a0) r1 hd hs h1
    obtain ⟨b2, rfl⟩ := nkOk_ref ok a1
    rcases look_n (k := key) st.2.1 st.vals with ⟨v, d', g1, g2, g3⟩ | ⟨_, g2⟩
    · rw [hl] at g2
      cases g2
      exact ⟨a0, vs, key, b2, v, rfl, st.dict, rfl, da_hk (fun b o z => (hide_some z).2) _ a1, (nkOk_tf ok).2, g1, hq v H1 r1 g3⟩
    · exact (by rw [hl] at g2; cases g2), mono_Ns hk.mono fun kvs key Q Q' hq ⟨d, h1, h2⟩ => ⟨d, h1, hq _ h2⟩⟩
theorem nin_imp {neg : Bool} {i : Nat} {wk : PW} (mk : Mono wk) : ∀ σ H Q, lift T X.K W (wNIn neg i wk) σ H Q → tNIn neg (lift T X.K W wk) (tVar i) σ H Q := fun σ H Q q => by
  obtain ⟨G, ρ, r, q⟩ := q
  obtain ⟨s, kvs, hd, hs, q⟩ := wNs_elim q
  refine lift_intro mk r (mk _ _ _ _ _ (fun kd hd' y H1 r1 e1 a1 => ?_) (fun _ z => z) q)
  obtain ⟨key, rfl, ok, hq⟩ := hd'
  obtain ⟨a0, vs, h1, st⟩ := slot_n r1 hd hs
  obtain ⟨b2, rfl⟩ := nkOk_ref ok a1
  refine ⟨_, h1, a0, vs, key, b2, rfl, st.dict, rfl, da_hk (fun b o z => (hide_some z).2) _ a1, (nkOk_tf ok).2, ?_⟩
  have : (valN vs key).isSome = (lookK kvs key).isSome := by
    rcases look_n (k := key) st.2.1 st.vals with ⟨v, d', g1, g2, g3⟩ | ⟨g1, g2⟩ <;> rw [g1, g2] <;> rfl
  rw [this]
  exact hq _ H1 r1 (.bl _)
theorem mono_NIn {neg : Bool} {i : Nat} {wk : PW} (mk : Mono wk) : Mono (wNIn neg i wk) := mono_Ns mk fun kvs key Q Q' hq h => hq _ h
theorem dt_nnin {i : Nat} {wk : PW} {k : Nat} (hr : Room k X.A) (ho : PE X a (tVar i)) (hk : DE T X W b wk) (hm : behindInMarks .NotIn a = false := by rfl) : DT T X W (.Compare b [.NotIn] [a] pos) (wT (wNIn true i wk)) :=
  dt_pc (pc_nnotin hr hk.pe ho) (nin_imp hk.mono) (mono_NIn hk.mono) hm
def wItN (i : Nat) : PWs := fun ρ Q _ => match ρ[i]? with
  | some (.sn kvs) => Q (kvs.map fun p => p.1.data)
  | _ => False
theorem wk_keysN {a : Addr} {ob : Obj} {vs : List NE} {B : Hp} (h : B a = some (.frz ob (NO a vs))) (hx : DaAll K B (vs.map fun p => .ref p.2.1) (vs.map fun p => p.1.data)) : WkJ K B (Itn a ob vs) (vs.map fun p => p.1.data) := fun O H e dm => by
  have ha : hide O H a = some (.frz ob (NO a vs)) := e _ _ h fun ps z => by cases z
  have ha2 := (hide_some ha).2
  refine ⟨fun i d hd => ?_, fun i hi => ⟨ha2, by rwa [List.length_map] at hi⟩⟩
  rw [List.getElem?_map] at hd
  obtain ⟨p, hp, rfl⟩ := Option.map_eq_some_iff.mp hd
  obtain ⟨d', h1, h2⟩ := hx.get (i := i) (v := .ref p.2.1) (by rw [List.getElem?_map, hp]; rfl)
  rw [List.getElem?_map, hp] at h1
  cases h1
  exact ⟨⟨ha2, (List.getElem?_eq_some_iff.mp hp).1⟩, fun x H3 hy => by
    obtain ⟨rfl, p', hp', rfl⟩ := hy
    rw [hp] at hp'
    cases hp'
    exact ⟨fun _ _ e => e, h2.ext e⟩⟩
theorem di_keysN {i : Nat} {tg : Expr} (ho : PE X a (tVar i)) : DI T X W tg a (wItN i) := ⟨pi_mono (pi_keysN ho) fun σ H R q => by
    obtain ⟨G, ρ, r, q⟩ := q
    unfold wItN at q
    split at q
    · rename_i kvs hd
      obtain ⟨u, h1, x, rfl, a, ob, vs, rfl, h3, h4, h5⟩ := r.slot i _ hd
      have st : NSt X.K G.O H kvs a vs := ⟨.inr ⟨ob, (hide_some h3).2⟩, h4, h5⟩
      have e : (kvs.map fun p => p.1.data) = vs.map fun p => p.1.data := by
        have := congrArg (List.map NestedKey.data) h4
        rw [List.map_map, List.map_map] at this
        exact this.symm
      rw [e] at q
      exact ⟨_, h1, a, ob, vs, rfl, (hide_some h3).2, q _ H r (wk_keysN h3 (NSt.keys st))⟩
    · exact q.elim, fun ρ Q Q' E E' hq he q => by
    unfold wItN at q ⊢
    split at q
    · exact hq _ q
    · exact q⟩
end
end PL
set_option Elab.async false
set_option linter.all false
set_option maxRecDepth 100000
set_option maxHeartbeats 2000000
namespace PL
open PySem PySem.Spec PyProof.Rows L2
open LamX (ExtN Tabs TabS)
section
variable {T : Tb} {X : Cx} {W : WX} {pos p pos' pos2 apos cpos : Pos} {e a b c : Expr} {st : Stmt} {K : PySem.W.Frag} {G : Gh} {ρ ρ2 : En} {σ σ2 : L2.St} {H H' : Hp} {D : Ends}
theorem put_n {B : Hp} {k : NestedKey} {b : Addr} {v : V} {d : PyData} (hk : Da K B (.ref b) k.data) (hd : Da K B v d) {vs : List NE} {kvs : List (NestedKey × PyData)} (e : vs.map (·.1) = kvs.map (·.1)) (h1 : DaAll K B (vs.map fun p => .ref p.2.1) (vs.map fun p => p.1.data)) (h2 : DaAll K B (vs.map (·.2.2)) (kvs.map (·.2))) :
    (putN vs k b v).map (·.1) = (putD kvs k d).map (·.1) ∧ DaAll K B (((putN vs k b v).map fun p => .ref p.2.1) ++ (putN vs k b v).map (·.2.2)) (((putD kvs k d).map fun p => p.1.data) ++ (putD kvs k d).map (·.2)) := by
  have hany : (valN vs k).isSome = (kvs.any fun p => decide (p.1 = k)) := by
    clear h1
    induction vs generalizing kvs with
    | nil => cases kvs with
      | nil => rfl
      | cons _ _ => cases e
    | cons q r ih => cases kvs with
      | nil => cases e
      | cons q' t =>
        injection e with e1 e2
        cases h2 with
        | cons g1 g2 =>
          have e1 : q.1 = q'.1 := e1
          have i := ih e2 g2
          by_cases z : q'.1 = k
          · have : q.1 = k := e1.trans z
            simp [valN, List.find?_cons, this, z]
          · have n : ¬ q.1 = k := fun y => z (e1.symm.trans y)
            have : valN (q :: r) k = valN r k := by simp [valN, List.find?_cons, n]
            rw [this, i]
            simp [z]
  have ek : (putN vs k b v).map (·.1) = (putD kvs k d).map (·.1) := by
    unfold putN putD
    rw [hany]
    split
    · rw [List.map_map, List.map_map]
      have f1 : ((fun p : NE => p.1) ∘ fun p : NE => if p.1 = k then (p.1, p.2.1, v) else p) = fun p => p.1 := by
        funext p; dsimp only [Function.comp]; split <;> rfl
      have f2 : ((fun p : NestedKey × PyData => p.1) ∘ fun p : NestedKey × PyData => if p.1 = k then (p.1, d) else p) = fun p => p.1 := by
        funext p; dsimp only [Function.comp]; split <;> rfl
      rw [f1, f2]
      exact e
    · rw [List.map_append, List.map_append, e]; rfl
  refine ⟨ek, ?_⟩
  have ed : ((putD kvs k d).map fun p => p.1.data) = (putN vs k b v).map fun p => p.1.data := by
    have := congrArg (List.map NestedKey.data) ek
    rw [List.map_map, List.map_map] at this
    exact this.symm
  rw [ed]
  refine DaAll.append ?_ ?_
  · unfold putN
    split
    · rw [List.map_map, List.map_map]
      have f1 : ((fun p : NE => V.ref p.2.1) ∘ fun p : NE => if p.1 = k then (p.1, p.2.1, v) else p) = fun p => V.ref p.2.1 := by
        funext p; dsimp only [Function.comp]; split <;> rfl
      have f2 : ((fun p : NE => p.1.data) ∘ fun p : NE => if p.1 = k then (p.1, p.2.1, v) else p) = fun p => p.1.data := by
        funext p; dsimp only [Function.comp]; split <;> rfl
      rw [f1, f2]
      exact h1
    · rw [List.map_append, List.map_append]
      exact h1.append (.cons hk .nil)
  · unfold putN putD
    rw [hany]
    split
    · rw [List.map_map, List.map_map]
      clear h1 hany ek ed
      rename_i hc
      clear hc
      induction vs generalizing kvs with
      | nil => cases kvs with
        | nil => exact .nil
        | cons _ _ => cases e
      | cons q r ih => cases kvs with
        | nil => cases e
        | cons q' t =>
          injection e with e1 e2
          cases h2 with
          | cons g1 g2 =>
            have e1 : q.1 = q'.1 := e1
            refine .cons ?_ (ih e2 g2)
            dsimp only [Function.comp]
            by_cases z : q'.1 = k
            · rw [if_pos z, if_pos (e1.trans z)]; exact hd
            · rw [if_neg z, if_neg fun y => z (e1.symm.trans y)]; exact g1
    · rw [List.map_append, List.map_append]
      exact h2.append (.cons hd .nil)
theorem Rep.wrN (r : Rep T K G ρ σ H) {i : Nat} {kvs kvs' : List (NestedKey × PyData)} {a : Addr} {vs vs' : List NE} (hi : ρ[i]? = some (.on kvs)) (hv : σ[i]? = some (some (.ref a))) (ha : Own T.dc G.O a) (h1 : H a = some (NO a vs))
    (hx : vs'.map (·.1) = kvs'.map (·.1) ∧ DaAll K (hide G.O H) ((vs'.map fun p => .ref p.2.1) ++ vs'.map (·.2.2)) ((kvs'.map fun p => p.1.data) ++ kvs'.map (·.2))) (hfl : ∀ q ∈ G.fl, q.1 ≠ a) : Rep T K G (ρ.set i (.on kvs')) σ (upd H a (NO a vs')) := by
  have eh : hide G.O (upd H a (NO a vs')) = hide G.O H := hide_upd ha.1
  have hil : i < ρ.length := (List.getElem?_eq_some_iff.mp hi).1
  refine ⟨by rw [List.length_set]; exact r.len, fun j s hs => ?_, fun j k s t b hjk hj hk hs ht e1 e2 => ?_, r.tab.updN h1, by rw [eh]; exact r.ext, fun b hb => ?_, fun q hq => ?_, fun b hb => ⟨(r.dcs b hb).1, by rw [upd_ne fun z => ha.2 (by rw [← z]; exact hb)]; exact (r.dcs b hb).2.1, (r.dcs b hb).2.2⟩⟩
  · by_cases e : i = j
    · subst e
      rw [List.getElem?_set_self hil] at hs
      cases hs
      exact ⟨_, hv, a, vs', rfl, ha, upd_same, hx.1, by rw [eh]; exact hx.2⟩
    · rw [List.getElem?_set_ne e] at hs
      obtain ⟨u, h2, h3⟩ := r.slot j s hs
      have ne : ∀ b, s.owned = true → u = some (.ref b) → b ≠ a := fun b hw eu z => by
        rw [eu, z] at h2
        exact r.sep i j _ s a e hi hs rfl hw hv h2
      refine ⟨u, h2, ?_⟩
      cases s with
      | un => trivial
      | sh d => obtain ⟨x, h4, h5⟩ := h3; exact ⟨x, h4, by rw [eh]; exact h5⟩
      | ol _ => obtain ⟨b, us, h4, h5, h6, h7⟩ := h3; exact ⟨b, us, h4, h5, by rw [upd_ne (ne b rfl h4)]; exact h6, by rw [eh]; exact h7⟩
      | ok _ => obtain ⟨b, us, h4, h5, h6, h7, h8⟩ := h3; exact ⟨b, us, h4, h5, by rw [upd_ne (ne b rfl h4)]; exact h6, h7, by rw [eh]; exact h8⟩
      | ot _ => obtain ⟨b, us, h4, h5, h6, h7, h8⟩ := h3; exact ⟨b, us, h4, h5, by rw [upd_ne (ne b rfl h4)]; exact h6, h7, by rw [eh]; exact h8⟩
      | ln b _ => obtain ⟨h4, h5, hob, h6, h8⟩ := h3; exact ⟨h4, h5, hob, by rw [upd_ne (ne b rfl h4)]; exact h6, by rw [eh]; exact h8⟩
      | on _ => obtain ⟨b, us, h4, h5, h6, h7, h8⟩ := h3; exact ⟨b, us, h4, h5, by rw [upd_ne (ne b rfl h4)]; exact h6, h7, by rw [eh]; exact h8⟩
      | sn d => obtain ⟨x, h4, h5⟩ := h3; exact ⟨x, h4, by rw [eh]; exact h5⟩
      | sk d => obtain ⟨x, h4, h5⟩ := h3; exact ⟨x, h4, by rw [eh]; exact h5⟩
      | dice => exact h3
      | scr ns => obtain ⟨b, h4, h5⟩ := h3; exact ⟨b, h4, by rw [eh]; exact h5⟩
  · have own : ∀ {l : Nat} {u : Sl}, (ρ.set i (.on kvs'))[l]? = some u → u.owned = true → ∃ u', ρ[l]? = some u' ∧ u'.owned = true := fun {l u} hl hu => by
      by_cases e : i = l
      · subst e; exact ⟨_, hi, rfl⟩
      · rw [List.getElem?_set_ne e] at hl; exact ⟨u, hl, hu⟩
    obtain ⟨s1, hj', hs'⟩ := own hj hs
    obtain ⟨t', hk', ht'⟩ := own hk ht
    exact r.sep j k s1 t' b hjk hj' hk' hs' ht' e1 e2
  · by_cases z : b = a
    · rw [z, upd_same]; exact ⟨_, rfl, fun ps z => by cases z⟩
    · rw [upd_ne z]; exact r.dom b hb
  · obtain ⟨h2, h3⟩ := r.fly q hq
    exact ⟨h2, by rw [upd_ne (hfl q hq)]; exact h3⟩
def sNPut (i : Nat) (wk w : PW) : SW := fun ρ D => match ρ[i]? with
  | some (.on kvs) => w ρ (fun d => wk ρ (fun k => ∃ key : NestedKey, k = key.data ∧ nkOk key = true ∧ kvs.length < sizeLine ∧ D.nx (ρ.set i (.on (putD kvs key d)))) D.ex) D.ex
  | _ => False
theorem ds_nput {i : Nat} {w wk : PW} {k : Nat} (hr : Room k X.A) (ho : PE X a (tVar i)) (hk : DE T X W b wk) (h : DE T X W e w) (hs : swapsWith e (some (.Subscript a b pos')) pos.line X.env = pure false := by rfl) : DS T X W (.Assign [.Subscript a b pos'] e pos) (sNPut i wk w) :=
  ⟨ps_mono (ps_nset hr ho hk.pe h.pe hs) fun D σ H q => by
    obtain ⟨G, ρ, r, fa, q⟩ := q
    unfold sNPut at q
    split at q
    · rename_i kvs hd
      refine ⟨G, ρ, r, h.mono _ _ _ _ _ (fun d hd' v H1 r1 a1 => ?_) (fun _ z => ex_out' z) q⟩
      obtain ⟨u, h1, b0, vs, rfl, h3, h4, h5, h6⟩ := r1.slot i _ hd
      refine ⟨_, h1, lift_intro hk.mono r1 (hk.mono _ _ _ _ _ (fun k hk' y H2 r2 e2 a2 => ?_) (fun _ z => ex_out' z) hd')⟩
      obtain ⟨key, rfl, ok, hl, q⟩ := hk'
      obtain ⟨v', h1', b', vs', e', h3', h4', h5', h6'⟩ := r2.slot i _ hd
      rw [h1] at h1'
      cases h1'
      cases e'
      have st : NSt X.K G.O H2 kvs b0 vs' := ⟨.inl h4', h5', h6'⟩
      obtain ⟨kb, rfl⟩ := nkOk_ref ok a2
      refine ⟨b0, vs', key, kb, rfl, st.dict, h4', rfl, da_hk (fun b o z => (hide_some z).2) _ a2, (nkOk_tf ok).2, (nkOk_tf ok).1, by rw [length_of_map h5']; exact hl, ?_⟩
      exact q σ _ G.O (r2.wrN hd h1 h3' h4' (put_n a2 (a1.ext e2) h5' st.keys st.vals) fun q hq z => fa q hq i _ hd rfl (by rw [z]; exact h1)) (fa.wr hd rfl)
    · exact q.elim, fun ρ D D' l q => by
    unfold sNPut at q ⊢
    split at q
    · exact h.mono _ _ _ _ _ (fun d hd => hk.mono _ _ _ _ _ (fun k ⟨key, h1, h2, h3, h4⟩ => ⟨key, h1, h2, h3, l.nx _ h4⟩) l.ex hd) l.ex q
    · exact q⟩
def sN0 (i : Nat) : SW := fun ρ D => D.nx (ρ.set i (.on []))
theorem ds_n0 {i : Nat} {x : Str} (hN : X.N.Nodup) (hi : X.N[i]? = some x) (hx : Loc X.env.scope x) (hs : swapsWith (.Dict [] [] p) (some (.Name x pos')) pos.line X.env = pure false := by rfl)
    (hf : X.fn x = true ∨ X.env.scope.names.lookup x = some .local := by first | exact .inl rfl | exact .inr rfl | assumption) : DS T X W (.Assign [.Name x pos'] (.Dict [] [] p) pos) (sN0 i) :=
  ⟨ps_mono (ps_set hN hi hx pe_dnewN hs hf) fun D σ H q p0 hp => by
    obtain ⟨G, ρ, r, fa, q⟩ := q
    obtain ⟨r1, eh, na, ap⟩ := r.own (o := NO p0 []) hp (fun ps z => by cases z)
    have nd : p0 ∉ T.dc := fun z => na (r.dcs p0 z).1
    exact q _ _ (p0 :: G.O) (r1.setSl (s := .on []) ⟨p0, [], rfl, ⟨List.mem_cons_self, nd⟩, upd_same, rfl, .nil⟩ fun _ b eb j t _ hj ht => by cases eb; exact ap j t hj ht) (fa.setSl fun _ q hq e => na (by cases e; exact (r.fly q hq).1)), fun _ _ _ l h => l.nx _ h⟩
theorem Rep.putN {Hb : Hp} {O : List Addr} {fl : List (Addr × HO)} {D : Addr} {ks ks' : List NE} (r : Rep T K ⟨Hb, O, (D, NO D ks) :: fl⟩ ρ σ H) (ap : Apt ρ σ D) (hn : ∀ q ∈ fl, q.1 ≠ D) :
    Rep T K ⟨Hb, O, (D, NO D ks') :: fl⟩ ρ σ (upd H D (NO D ks')) ∧ hide O (upd H D (NO D ks')) = hide O H := by
  obtain ⟨hO, hD⟩ := r.fly _ List.mem_cons_self
  have eh : hide O (upd H D (NO D ks')) = hide O H := hide_upd hO
  have off : ∀ (j : Nat) (s : Sl) (b : Addr), ρ[j]? = some s → s.owned = true → σ[j]? = some (some (.ref b)) → b ≠ D := fun j s b hj hs e z => by
    rw [z] at e; exact ap j s hj hs e
  refine ⟨⟨r.len, fun j s hj => ?_, r.sep, r.tab.updN hD, by rw [eh]; exact r.ext, fun b hb => ?_, fun q hq => ?_, fun b hb => ?_⟩, eh⟩
  · obtain ⟨u, h1, h2⟩ := r.slot j s hj
    refine ⟨u, h1, ?_⟩
    cases s with
    | un => trivial
    | sh d => obtain ⟨x, h3, h4⟩ := h2; exact ⟨x, h3, by rw [eh]; exact h4⟩
    | ol ds => obtain ⟨b, us, h3, h4, h5, h6⟩ := h2; subst h3; exact ⟨b, us, rfl, h4, by rw [upd_ne (off j _ b hj rfl h1)]; exact h5, by rw [eh]; exact h6⟩
    | ok ds => obtain ⟨b, us, h3, h4, h5, h6, h7⟩ := h2; subst h3; exact ⟨b, us, rfl, h4, by rw [upd_ne (off j _ b hj rfl h1)]; exact h5, h6, by rw [eh]; exact h7⟩
    | ot ds => obtain ⟨b, us, h3, h4, h5, h6, h7⟩ := h2; subst h3; exact ⟨b, us, rfl, h4, by rw [upd_ne (off j _ b hj rfl h1)]; exact h5, h6, by rw [eh]; exact h7⟩
    | ln b _ => obtain ⟨h3, h4, hob, h5, h7⟩ := h2; subst h3; exact ⟨rfl, h4, hob, by rw [upd_ne (off j _ b hj rfl h1)]; exact h5, by rw [eh]; exact h7⟩
    | on ds => obtain ⟨b, us, h3, h4, h5, h6, h7⟩ := h2; subst h3; exact ⟨b, us, rfl, h4, by rw [upd_ne (off j _ b hj rfl h1)]; exact h5, h6, by rw [eh]; exact h7⟩
    | sn d => obtain ⟨x, h3, h4⟩ := h2; exact ⟨x, h3, by rw [eh]; exact h4⟩
    | sk d => obtain ⟨x, h3, h4⟩ := h2; exact ⟨x, h3, by rw [eh]; exact h4⟩
    | dice => exact h2
    | scr ns => obtain ⟨b, h3, h4⟩ := h2; exact ⟨b, h3, by rw [eh]; exact h4⟩
  · by_cases z : b = D
    · rw [z, upd_same]; exact ⟨_, rfl, fun ps e => by cases e⟩
    · rw [upd_ne z]; exact r.dom b hb
  · rcases List.mem_cons.mp hq with z | z
    · rw [z]; exact ⟨hO, upd_same⟩
    · rw [upd_ne (hn q z)]; exact r.fly q (List.mem_cons_of_mem _ z)
  · obtain ⟨h1, h2, h3⟩ := r.dcs b hb
    have nb : b ≠ D := fun z => h3 _ List.mem_cons_self z.symm
    refine ⟨h1, by rw [upd_ne nb]; exact h2, fun q hq => ?_⟩
    rcases List.mem_cons.mp hq with z | z
    · rw [z]; exact fun z => nb z.symm
    · exact h3 q (List.mem_cons_of_mem _ z)
def sN1 (i : Nat) (wk wv : PW) : SW := fun ρ D => wk ρ (fun k => wv ρ (fun v => ∃ key : NestedKey, k = key.data ∧ nkOk key = true ∧ D.nx (ρ.set i (.on [(key, v)]))) D.ex) D.ex
theorem ds_n1 {i k : Nat} {x : Str} {wk wv : PW} (hr : Room k X.A) (hN : X.N.Nodup) (hi : X.N[i]? = some x) (hx : Loc X.env.scope x) (hk : DE T X W a wk) (hv : DE T X W b wv)
    (hs : swapsWith (.Dict [some a] [b] p) (some (.Name x pos')) pos.line X.env = pure false := by rfl)
    (hf : X.fn x = true ∨ X.env.scope.names.lookup x = some .local := by first | exact .inl rfl | exact .inr rfl | assumption) : DS T X W (.Assign [.Name x pos'] (.Dict [some a] [b] p) pos) (sN1 i wk wv) :=
  ⟨ps_mono (ps_set hN hi hx (pe_dispN1 hr hk.pe hv.pe) hs hf) fun D σ H q p0 hp => by
    obtain ⟨G, ρ, r, fa, q⟩ := q
    obtain ⟨r', eh, na, ap⟩ := r.own (o := NO p0 []) hp (fun ps z => by cases z)
    have nd : p0 ∉ T.dc := fun z => na (r.dcs p0 z).1
    have nf : ∀ q ∈ G.fl, q.1 ≠ p0 := fun q hq z => na (by rw [← z]; exact (r.fly q hq).1)
    have ex : ∀ x, (endS T X.K W G D).ex x → exOut T X.K W ⟨G.Hb, p0 :: G.O, (p0, NO p0 []) :: G.fl⟩ ρ σ x := fun x hx H' cls dd r3 q => ex_out' hx H' cls dd (r.drop r3.land.1 ap) (exR_ext (ext_sub fun b hb => List.mem_cons_of_mem _ hb) q)
    refine lift_intro hk.mono (r'.fly1 List.mem_cons_self upd_same nd) (hk.mono _ _ _ _ _ (fun kd hkd u H1 r1 e1 a1 => ?_) ex q)
    refine lift_intro hv.mono r1 (hv.mono _ _ _ _ _ (fun vd hvd y H2 r2 e2 a2 => ?_) ex hkd)
    obtain ⟨key, rfl, ok, hq⟩ := hvd
    obtain ⟨b2, rfl⟩ := nkOk_ref ok a1
    obtain ⟨r4, e4⟩ := r2.putN (ks' := [(key, b2, y)]) ap nf
    refine ⟨r2.land.2, b2, key, rfl, da_hk (fun b o z => (hide_some z).2) _ (a1.ext e2), (nkOk_tf ok).2, (nkOk_tf ok).1, ?_⟩
    exact hq _ _ (p0 :: G.O) (r4.land.1.setSl (s := .on [(key, vd)]) ⟨p0, _, rfl, ⟨List.mem_cons_self, nd⟩, upd_same, rfl, by rw [e4]; exact .cons (a1.ext e2) (.cons a2 .nil)⟩ fun _ b eb j t _ hj ht => by cases eb; exact ap j t hj ht) (fa.setSl fun _ q hq e => na (by cases e; exact (r.fly q hq).1)),
   fun ρ D D' l q => hk.mono _ _ _ _ _ (fun _ h => hv.mono _ _ _ _ _ (fun _ h => by obtain ⟨key, e1, e2, h⟩ := h; exact ⟨key, e1, e2, l.nx _ h⟩) l.ex h) l.ex q⟩
theorem Rep.frzN (r : Rep T K G ρ σ H) {i : Nat} {kvs : List (NestedKey × PyData)} {a : Addr} {vs : List NE} {od : Obj} (hi : ρ[i]? = some (.on kvs)) (hv : σ[i]? = some (some (.ref a))) (ha : Own T.dc G.O a) (h1 : H a = some (NO a vs))
    (hk : vs.map (·.1) = kvs.map (·.1)) (hx : DaAll K (hide G.O H) ((vs.map fun p => .ref p.2.1) ++ vs.map (·.2.2)) ((kvs.map fun p => p.1.data) ++ kvs.map (·.2))) (hfl : ∀ q ∈ G.fl, q.1 ≠ a) :
    Rep T K ⟨G.Hb, G.O.filter (fun b => decide (b ≠ a)), G.fl⟩ (ρ.set i (.sn kvs)) σ (upd H a (.frz od (NO a vs))) := by
  have mem : ∀ {b}, b ∈ G.O.filter (fun b => decide (b ≠ a)) ↔ b ∈ G.O ∧ b ≠ a := fun {b} => by rw [List.mem_filter, decide_eq_true_eq]
  have e : ExtN (hide G.O H) (hide (G.O.filter (fun b => decide (b ≠ a))) (upd H a (.frz od (NO a vs)))) := fun b o h n => by
    obtain ⟨h2, h3⟩ := hide_some h
    have nb : b ≠ a := fun z => h2 (by rw [z]; exact ha.1)
    rw [hide_out fun z => h2 (mem.mp z).1, upd_ne nb]
    exact h3
  have hil : i < ρ.length := (List.getElem?_eq_some_iff.mp hi).1
  refine ⟨by rw [List.length_set]; exact r.len, fun j s hs => ?_, fun j k s t b hjk hj hk hs ht e1 e2 => ?_, r.tab.updN h1, r.ext.trans e, fun b hb => by rw [upd_ne (mem.mp hb).2]; exact r.dom b (mem.mp hb).1, fun q hq => ⟨mem.mpr ⟨(r.fly q hq).1, hfl q hq⟩, by rw [upd_ne (hfl q hq)]; exact (r.fly q hq).2⟩,
    fun b hb => ⟨mem.mpr ⟨(r.dcs b hb).1, fun z => ha.2 (by rw [← z]; exact hb)⟩, by rw [upd_ne fun z => ha.2 (by rw [← z]; exact hb)]; exact (r.dcs b hb).2.1, (r.dcs b hb).2.2⟩⟩
  · by_cases z : i = j
    · subst z
      rw [List.getElem?_set_self hil] at hs
      cases hs
      exact ⟨_, hv, .ref a, rfl, a, od, vs, rfl, by rw [hide_out fun z => (mem.mp z).2 rfl, upd_same], hk, hx.ext e⟩
    · rw [List.getElem?_set_ne z] at hs
      obtain ⟨u, h2, h3⟩ := r.slot j s hs
      have ne : ∀ b, s.owned = true → u = some (.ref b) → b ≠ a := fun b hw eu z' => by
        rw [eu, z'] at h2
        exact r.sep i j _ s a z hi hs rfl hw hv h2
      refine ⟨u, h2, ?_⟩
      cases s with
      | un => trivial
      | sh d => obtain ⟨x, h4, h5⟩ := h3; exact ⟨x, h4, h5.ext e⟩
      | ol _ => obtain ⟨b, us, h4, h5, h6, h7⟩ := h3; exact ⟨b, us, h4, ⟨mem.mpr ⟨h5.1, ne b rfl h4⟩, h5.2⟩, by rw [upd_ne (ne b rfl h4)]; exact h6, h7.ext e⟩
      | ok _ => obtain ⟨b, us, h4, h5, h6, h7, h8⟩ := h3; exact ⟨b, us, h4, ⟨mem.mpr ⟨h5.1, ne b rfl h4⟩, h5.2⟩, by rw [upd_ne (ne b rfl h4)]; exact h6, h7, h8.ext e⟩
      | ot _ => obtain ⟨b, us, h4, h5, h6, h7, h8⟩ := h3; exact ⟨b, us, h4, ⟨mem.mpr ⟨h5.1, ne b rfl h4⟩, h5.2⟩, by rw [upd_ne (ne b rfl h4)]; exact h6, h7, h8.ext e⟩
      | ln b _ => obtain ⟨h4, h5, hob, h6, h8⟩ := h3; exact ⟨h4, ⟨mem.mpr ⟨h5.1, ne b rfl h4⟩, h5.2⟩, hob, by rw [upd_ne (ne b rfl h4)]; exact h6, h8.ext e⟩
      | on _ => obtain ⟨b, us, h4, h5, h6, h7, h8⟩ := h3; exact ⟨b, us, h4, ⟨mem.mpr ⟨h5.1, ne b rfl h4⟩, h5.2⟩, by rw [upd_ne (ne b rfl h4)]; exact h6, h7, h8.ext e⟩
      | sn d => obtain ⟨x, h4, h5⟩ := h3; exact ⟨x, h4, h5.ext e⟩
      | sk d => obtain ⟨x, h4, h5⟩ := h3; exact ⟨x, h4, h5.ext e⟩
      | dice => exact h3
      | scr ns => obtain ⟨b, h4, h5⟩ := h3; exact ⟨b, h4, sqL_ext e h5⟩
  · have own : ∀ {l : Nat} {u : Sl}, (ρ.set i (.sn kvs))[l]? = some u → u.owned = true → ρ[l]? = some u := fun {l u} hl hu => by
      by_cases z : i = l
      · subst z; rw [List.getElem?_set_self hil] at hl; cases hl; cases hu
      · rw [List.getElem?_set_ne z] at hl; exact hl
    exact r.sep j k s t b hjk (own hj hs) (own hk ht) hs ht e1 e2
def sFrzN (i : Nat) (v : SW) : SW := fun ρ D => match ρ[i]? with
  | some (.on kvs) => v (ρ.set i (.sn kvs)) D
  | some (.sn _) => v ρ D
  | _ => False
theorem dss_frzN {sts : List Stmt} (i : Nat) {v : SW} (h : DSs T X W sts v) : DSs T X W sts (sFrzN i v) :=
  ⟨⟨fun pins s σ H D I q => by
    obtain ⟨G, ρ, r, fa, q⟩ := q
    unfold sFrzN at q
    split at q
    · rename_i kvs hd
      obtain ⟨v', h1, b, vs, rfl, h3, h4, h5, h6⟩ := r.slot i _ hd
      obtain ⟨od, I'⟩ := I.lock h4 True.intro
      exact h.ps.run pins s σ _ D I' ⟨⟨G.Hb, G.O.filter (fun c => decide (c ≠ b)), G.fl⟩, _, r.frzN hd h1 h3 h4 h5 h6 fun q hq z => fa q hq i _ hd rfl (by rw [z]; exact h1), fa.wr hd rfl, q⟩
    · exact h.ps.run pins s σ H D I ⟨G, ρ, r, fa, q⟩
    · exact q.elim⟩, fun ρ D D' l q => by
    unfold sFrzN at q ⊢
    split at q
    · exact h.mono _ _ _ l q
    · exact h.mono _ _ _ l q
    · exact q⟩
def sCpN (i j : Nat) : SW := fun ρ D => match ρ[j]? with
  | some (.sn kvs) => D.nx (ρ.set i (.sn kvs))
  | _ => False
theorem ds_cpN {i j : Nat} {x : Str} (hN : X.N.Nodup) (hi : X.N[i]? = some x) (hx : Loc X.env.scope x) (ho : PE X a (tVar j)) (hs : swapsWith a (some (.Name x pos')) pos.line X.env = pure false := by rfl)
    (hf : X.fn x = true ∨ X.env.scope.names.lookup x = some .local := by first | exact .inl rfl | exact .inr rfl | assumption) : DS T X W (.Assign [.Name x pos'] a pos) (sCpN i j) :=
  ⟨ps_mono (ps_set hN hi hx ho hs hf) fun D σ H q => by
    obtain ⟨G, ρ, r, fa, q⟩ := q
    unfold sCpN at q
    split at q
    · rename_i kvs hd
      obtain ⟨u, h1, y, rfl, h2⟩ := r.slot j _ hd
      exact ⟨_, h1, q _ _ G.O (r.setSl (s := .sn kvs) ⟨y, rfl, h2⟩ (fun z => by cases z)) (fa.setSl fun z => by cases z)⟩
    · exact q.elim, fun ρ D D' l q => by
    unfold sCpN at q ⊢
    split at q
    · exact l.nx _ q
    · exact q⟩
end
end PL
set_option Elab.async false
set_option linter.all false
set_option maxRecDepth 100000
set_option maxHeartbeats 2000000
namespace PL
open PySem PySem.Spec PyProof.Rows L2
open LamX (ExtN Tabs TabS)
end PL
set_option Elab.async false
set_option linter.all false
set_option maxRecDepth 100000
set_option maxHeartbeats 2000000
namespace PL
open PySem PySem.Spec PyProof.Rows L2
open LamX (ExtN Tabs TabS)
section
variable {T : Tb} {X : Cx} {W : WX} {pos p pos' apos : Pos} {e a b : Expr} {es : List Expr} {st : Stmt} {rest : List Stmt} {K : PySem.W.Frag} {G G2 : Gh} {ρ ρ2 : En} {σ σ2 : L2.St} {H H' : Hp} {D : Ends}
def Sl.pin : Sl → Option Addr
  | .ln a _ => some a
  | _ => none
def lnOf : Sl → Option LD
  | .ol ds => some (.l ds)
  | .ot kvs => some (.t kvs)
  | .ln _ l => some l
  | _ => none
def lnSet : Sl → LD → Sl
  | .ol _, .l ds => .ol ds
  | .ot _, .t kvs => .ot kvs
  | .ln a _, l => .ln a l
  | _, _ => .un
inductive ArgsM (T : Tb) (K : PySem.W.Frag) (ρ : En) (σ : L2.St) (B : Hp) : List V → List Sl → List (Option Nat) → Prop
  | nil : ArgsM T K ρ σ B [] [] []
  | sh {v : V} {d : PyData} {vs : List V} {ss : List Sl} {is : List (Option Nat)} : Da K B v d → ArgsM T K ρ σ B vs ss is → ArgsM T K ρ σ B (v :: vs) (.sh d :: ss) (none :: is)
  | ln {a : Addr} {l : LD} {i : Nat} {s0 : Sl} {vs : List V} {ss : List Sl} {is : List (Option Nat)} : ρ[i]? = some s0 → lnOf s0 = some l → σ[i]? = some (some (.ref a)) → ArgsM T K ρ σ B vs ss is → ArgsM T K ρ σ B (.ref a :: vs) (.ln a l :: ss) (some i :: is)
theorem ArgsM.ext {B B' : Hp} {vs : List V} {ss : List Sl} {is : List (Option Nat)} (e : ExtN B B') (h : ArgsM T K ρ σ B vs ss is) : ArgsM T K ρ σ B' vs ss is := by
  induction h with
  | nil => exact .nil
  | sh h _ ih => exact .sh (h.ext e) ih
  | ln h1 h2 h3 _ ih => exact .ln h1 h2 h3 ih
theorem SlOk.back {D0 O : List Addr} {s : Sl} {l l0 : LD} {b : Addr} {o : HO} (hs : lnOf s = some l0) (hb : Own D0 O b) (h : H b = some o) (hl : LdOk K (hide O H) l o) (hp : ∀ c, s.pin = some c → c = b) : SlOk K D0 O H (lnSet s l) (some (.ref b)) := by
  cases s with
  | ol ds => cases l with
    | l es => obtain ⟨vs, rfl, h4⟩ := hl; exact ⟨b, vs, rfl, hb, h, h4⟩
    | t _ => trivial
  | ot kvs => cases l with
    | l _ => trivial
    | t es => obtain ⟨vs, rfl, h4, h5⟩ := hl; exact ⟨b, vs, rfl, hb, h, h4, h5⟩
  | ln a l' =>
    have := hp a rfl
    subst this
    exact ⟨rfl, hb, o, h, hl⟩
  | _ => cases hs
end
end PL
set_option Elab.async false
set_option linter.all false
set_option maxRecDepth 100000
set_option maxHeartbeats 2000000
namespace PL
open PySem PySem.Spec PyProof.Rows L2
open LamX (ExtN Tabs TabS)
end PL
set_option Elab.async false
set_option linter.all false
set_option maxRecDepth 100000
set_option maxHeartbeats 2000000
set_option Elab.async false
set_option linter.all false
set_option maxRecDepth 100000
set_option maxHeartbeats 2000000
namespace PL
open PySem PySem.Spec PyProof.Rows L2
open LamX (ExtN Tabs TabS)
end PL
set_option Elab.async false
set_option linter.all false
set_option maxRecDepth 100000
set_option maxHeartbeats 2000000
namespace PL
open PySem PySem.Spec PyProof.Rows L2 KSet
open LamX (ExtN Tabs TabS)
end PL
set_option Elab.async false
set_option linter.all false
set_option maxRecDepth 100000
set_option maxHeartbeats 2000000
namespace PL
open PySem PySem.Spec PyProof.Rows L2
open LamX (ExtN Tabs TabS)
end PL
set_option Elab.async false
set_option linter.all false
set_option maxRecDepth 100000
set_option maxHeartbeats 2000000
namespace PL
open PySem PySem.Spec PyProof.Rows L2 KSet
open LamX (ExtN Tabs TabS)
end PL
set_option Elab.async false
set_option linter.all false
set_option maxRecDepth 100000
set_option maxHeartbeats 2000000
namespace KSet
open PySem PySem.Spec PyProof.Rows L2
/-- who sits where: the first n, each at one slot -/
structure Sit (m n : Nat) (owner : Array (Option Nat)) : Prop where
  sz : owner.size = m + 1
  all : ∀ k, k < n → ∃ j, j ≤ m ∧ oAt owner j = some k
  lt : ∀ j k, j ≤ m → oAt owner j = some k → k < n
  one : ∀ i j k, i ≤ m → j ≤ m → oAt owner i = some k → oAt owner j = some k → i = j
theorem Sit.free {m n : Nat} {owner : Array (Option Nat)} (S : Sit m n owner) (h : n ≤ m) : ∃ j, j ≤ m ∧ oAt owner j = none := by
  refine Classical.byContradiction fun z => ?_
  have f : ∀ j, j ≤ m → ∃ k, oAt owner j = some k := fun j hj => by
    cases e : oAt owner j with
    | none => exact absurd ⟨j, hj, e⟩ z
    | some k => exact ⟨k, rfl⟩
  have := nat_nodup_len ((List.range (m + 1)).map fun j => (oAt owner j).getD 0) (List.range n) (by
    rw [List.Nodup, List.pairwise_map]
    refine (List.nodup_range (n := m + 1)).imp_of_mem fun {i j} hi hj ne e => ne ?_
    have hi := List.mem_range.mp hi
    have hj := List.mem_range.mp hj
    obtain ⟨a, ea⟩ := f i (by omega)
    obtain ⟨b, eb⟩ := f j (by omega)
    rw [ea, eb] at e
    have e : a = b := e
    subst e
    exact S.one i j a (by omega) (by omega) ea eb) fun x hx => by
    obtain ⟨j, hj, rfl⟩ := List.mem_map.mp hx
    have hj := List.mem_range.mp hj
    obtain ⟨a, ea⟩ := f j (by omega)
    rw [ea]
    exact List.mem_range.mpr (S.lt j a (by omega) ea)
  rw [List.length_map, List.length_range, List.length_range] at this
  omega
theorem Sit.step {m n : Nat} {owner : Array (Option Nat)} (S : Sit m n owner) {j : Nat} (hj : j ≤ m) (hf : oAt owner j = none) : Sit m (n + 1) (owner.setIfInBounds j (some n)) := by
  have hs : j < owner.size := by rw [S.sz]; omega
  have self := oAt_set_self (some n) hs
  refine ⟨by rw [Array.size_setIfInBounds]; exact S.sz, fun k hk => ?_, fun i k hi e => ?_, fun i i' k hi hi' e e' => ?_⟩
  · by_cases c : k = n
    · exact ⟨j, hj, by rw [c]; exact self⟩
    · obtain ⟨i, hi, e⟩ := S.all k (by omega)
      exact ⟨i, hi, by rw [oAt_set_ne _ fun z => by rw [z, hf] at e; cases e]; exact e⟩
  · by_cases c : i = j
    · rw [c, self] at e; cases e; omega
    · rw [oAt_set_ne _ c] at e; have := S.lt i k hi e; omega
  · by_cases c : i = j
    · by_cases c' : i' = j
      · rw [c, c']
      · rw [c, self] at e
        rw [oAt_set_ne _ c'] at e'
        cases e
        have := S.lt i' n hi' e'
        omega
    · rw [oAt_set_ne _ c] at e
      by_cases c' : i' = j
      · rw [c', self] at e'
        cases e'
        have := S.lt i n hi e
        omega
      · rw [oAt_set_ne _ c'] at e'
        exact S.one i i' k hi hi' e e'
end KSet
set_option Elab.async false
set_option linter.all false
set_option maxRecDepth 100000
set_option maxHeartbeats 2000000
namespace KSet
open PySem PySem.Spec PyProof.Rows L2
section
variable {P : Program} {w : World} {A : Around} {E : Value → Shared → Prop} {s : Shared} {a b : Addr} {ks ks2 : List Key} {M M2 : Array (Int × Value)} {ep ep2 : Nat} {tb tb2 : SetTable}
/-- the set at a, its table told -/
structure SAt (P : Program) (w : World) (h : Heap) (a : Addr) (M : Array (Int × Value)) (ep : Nat) (tb : SetTable) (ks : List Key) : Prop where
  at_ : ∃ ob, h.get? a = some ob ∧ ob.ExactSet ∧ ob.data = .set M ep tb
  tb : Tb P w M tb ks
theorem SAt.keep {h h' : Heap} (X : SAt P w h a M ep tb ks) (k : ∀ o, h.get? a = some o → h'.get? a = some o) : SAt P w h' a M ep tb ks := by
  obtain ⟨⟨ob, h1, h2, h3⟩, t⟩ := X
  exact ⟨⟨ob, k ob h1, h2, h3⟩, t⟩
theorem Tb.place {M : Array (Int × Value)} {tb : SetTable} {ks : List Key} (B : Tb P w M tb ks) : tb.place.size = ks.length := by
  have := B.fit
  unfold SetTable.fits at this
  rw [Bool.and_eq_true, beq_iff_eq] at this
  rw [this.1, B.size]
end
end KSet
set_option Elab.async false
set_option linter.all false
set_option maxRecDepth 100000
set_option maxHeartbeats 2000000
namespace KSet
open PySem PySem.Spec PyProof.Rows L2
end KSet
set_option Elab.async false
set_option linter.all false
set_option maxRecDepth 100000
set_option maxHeartbeats 2000000
namespace PL
open PySem PySem.Spec PyProof.Rows L2 KSet
open LamX (ExtN Tabs TabS)
end PL
set_option Elab.async false
set_option linter.all false
set_option maxRecDepth 100000
set_option maxHeartbeats 2000000
set_option Elab.async false
set_option linter.all false
set_option maxRecDepth 100000
set_option maxHeartbeats 2000000
set_option Elab.async false
set_option linter.all false
set_option maxRecDepth 100000
set_option maxHeartbeats 2000000
namespace PL
open PySem PySem.Spec PyProof.Rows L2
open LamX (ExtN Tabs TabS)
end PL
set_option Elab.async false
set_option linter.all false
set_option maxRecDepth 100000
set_option maxHeartbeats 2000000
namespace PL
open PySem PySem.Spec PyProof.Rows L2 LamX
section
variable {X : Cx} {pins : List (Addr × Obj)} {σ : L2.St} {H : Hp} {s : Shared} {T : Tb}
/-- the function of a lambda of X's frame stands at f, its code object at c' -/
def FnAt (X : Cx) (H : Hp) (f c' : Addr) (params : Arguments) (body : Expr) (scope : Scope) : Prop :=
  (∃ pm ctv, H f = some (.frz (PySem.W.kla_obj "<lambda>" (X.env.qual ++ "<lambda>") params body scope (cloFrom X.env.cells scope.names []) pm c' ctv) (.own f))) ∧ H c' = some (CodeO c' (X.env.qual ++ "<lambda>"))
theorem FnAt.ext {P : Addr} {H' : Hp} {f c' : Addr} {params : Arguments} {body : Expr} {scope : Scope} {ps : Array Value} (h : FnAt X H f c' params body scope) (hP : H P = some (.tbl ps)) (e : ExtB P H H') : FnAt X H' f c' params body scope := by
  obtain ⟨⟨pm, ctv, h1⟩, h2⟩ := h
  refine ⟨⟨pm, ctv, e _ _ (fun z => ?_) h1⟩, e _ _ (fun z => ?_) h2⟩
  · rw [z, hP] at h1; cases h1
  · rw [z, hP] at h2; exact codeO_ne ps (Option.some.inj h2).symm
theorem lam_keep {c P : Addr} {params : Arguments} {body : Expr} {scope : Scope} {pos : Pos} {E : Value → Shared → Prop} {Q : Value → Shared → Prop} (I : Inv X pins σ H s) (B : TabB X.base X.mg c P) (hcode : X.env.code = .ref c) (hm : (P, X.env.qual ++ "<lambda>") ∈ T.tl)
    (hu : ∀ p ∈ T.tl, p.1 = P → p.2 = X.env.qual ++ "<lambda>") (hg : P ∉ T.tg ++ T.tn) (hT : TOk T H) (hdef : defaultsOf params X.env = ([], [])) (hfree : ∀ y ∈ scope.names, y.2 = .free → ∃ c, X.env.cells.lookup y.1 = some c)
    (h : ∀ (f c' : Addr) (H1 : Hp) (s' : Shared), Inv X pins σ H1 s' → ExtB P H H1 → TOk T H1 → FnAt X H1 f c' params body scope → H f = none → Q (.ref f) s') : wpAny (model X.prog X.w) X.A (eval (.Lambda params body scope pos) X.env) Q E s := by
  obtain ⟨ps, hP, ht, ha⟩ := hT.l _ hm
  have atP : s.heap.get? P = some { cls := .none, data := .fields ps } := I.hok P _ hP
  refine PySem.W.kla_eval hdef ?_
  cases hc : codeAmong pos ps.toList with
  | some cv =>
    obtain ⟨c', rfl, hco⟩ := ha pos cv hc
    refine PySem.W.kla_makeFunctionHit (mg := X.mg) (c := c) (P := P) (ps := ps) (closure_ok hfree) I.ok.glob (I.mod.glob.keeps I.bk) hcode (B.code.keeps I.bk) atP ht hc (B.bm.keeps I.bk) fun ctv h' tk hx hsz => ?_
    have I0 : Inv X pins σ H { s with heap := h', toks := tk } := I.kept hx
    have n0 : H h'.objs.size = none := I0.hok.fresh (Nat.le_refl _)
    have I1 := I0.laid (a := h'.objs.size) (o := .frz (PySem.W.kla_obj "<lambda>" (X.env.qual ++ "<lambda>") params body scope (cloFrom X.env.cells scope.names []) ((X.mg "__name__").getD .none) c' ctv) (.own h'.objs.size)) (h' := h'.push (PySem.W.kla_obj "<lambda>" (X.env.qual ++ "<lambda>") params body scope (cloFrom X.env.cells scope.names []) ((X.mg "__name__").getD .none) c' ctv)) (t' := tk)
      (fun b u q => Heap.get?_push_of_some _ q) (Nat.le_refl _) ⟨Heap.get?_push_size _ rfl, _, Heap.get?_push_size _ rfl⟩
    have kp : ∀ b o, H b = some o → upd H h'.objs.size (.frz (PySem.W.kla_obj "<lambda>" (X.env.qual ++ "<lambda>") params body scope (cloFrom X.env.cells scope.names []) ((X.mg "__name__").getD .none) c' ctv) (.own h'.objs.size)) b = some o := fun b o e => by rw [upd_ne (ne_of_none e n0)]; exact e
    exact h _ c' _ _ I1 (fun b o _ e => kp b o e) (hT.keep kp) ⟨⟨_, _, upd_same⟩, kp _ _ hco⟩ n0
  | none =>
    refine PySem.W.kla_makeFunction (mg := X.mg) (c := c) (P := P) (ps := ps) (closure_ok hfree) I.ok.glob (I.mod.glob.keeps I.bk) hcode (B.code.keeps I.bk) atP ht hc B.gP (B.bm.keeps I.bk) fun c' ctv h' tk hx hge hlt hrec htb => ?_
    obtain ⟨c2, oc, vs, t, e2, hoc, hd, hv⟩ := hrec
    cases e2
    have big : s.heap.objs.size ≤ h'.objs.size := Nat.le_trans hge (Nat.le_of_lt hlt)
    have new : H c' = none := I.hok.fresh hge
    have I0 := inv_table (t' := tk) (q := X.env.qual ++ "<lambda>") (more := #[rawInt pos.line, rawInt pos.col, .ref c']) (h' := h') I hP (fun b o hb e => hx b o hb e) htb hge ⟨oc, vs, t, hoc, hd, hv⟩
    have keep : ExtB P H (upd (upd H P (.tbl (ps ++ #[rawInt pos.line, rawInt pos.col, .ref c']))) c' (CodeO c' (X.env.qual ++ "<lambda>"))) := fun b o hb e => by rw [upd_ne (ne_of_none e new), upd_ne hb]; exact e
    have codeK : ∀ {c0 q}, H c0 = some (CodeO c0 q) → c0 ≠ P := fun {c0 q} e z => by rw [z, hP] at e; exact codeO_ne ps (Option.some.inj e).symm
    have el : (ps ++ #[rawInt pos.line, rawInt pos.col, .ref c']).toList = ps.toList ++ [rawInt pos.line, rawInt pos.col, .ref c'] := by simp
    have nP : P ≠ c' := ne_of_none hP new
    have hap : P ∈ T.ap := List.mem_append_left _ (List.mem_map.mpr ⟨_, hm, rfl⟩)
    have keepC : ∀ {c P'}, CdAt H c P' → CdAt _ c P' := fun {c0 P'} ⟨oc, h1, h2⟩ => ⟨oc, keep c0 _ (fun z => by rw [z, hP] at h1; cases h1) h1, h2⟩
    have t0 : TOk T (upd (upd H P (.tbl (ps ++ #[rawInt pos.line, rawInt pos.col, .ref c']))) c' (CodeO c' (X.env.qual ++ "<lambda>"))) := by
      refine ⟨fun P' hP' => ?_, fun p hp => ?_, fun P' hP' => ?_, fun q hq => keepC (hT.c q hq), fun q hq => ⟨keep _ _ (fun z => by
        obtain ⟨h1, h2⟩ := hT.k q hq
        rw [z, hP] at h1
        rcases h2 with ⟨oc, h2⟩ | ⟨s, h2⟩
        · rw [h2] at h1; cases h1
        · rw [h2] at h1; exact codeO_ne ps (Option.some.inj h1).symm) (hT.k q hq).1, (hT.k q hq).2⟩⟩
      · obtain ⟨ps', h1, h2⟩ := hT.g P' hP'
        exact ⟨ps', keep _ _ (fun z => hg (List.mem_append_left _ (by rw [← z]; exact hP'))) h1, h2⟩
      · by_cases hb : p.1 = P
        · rw [hu p hp hb, hb]
          refine ⟨_, by rw [upd_ne nP, upd_same], by rw [el]; exact TriplesOk_snoc _ _ _ _ ht, fun p' cv hcv => ?_⟩
          rw [el] at hcv
          exact (among_app _ ht hcv).elim (fun z => by obtain ⟨c0, e1, e2⟩ := ha p' cv z; exact ⟨c0, e1, keep _ _ (codeK e2) e2⟩) fun z => ⟨c', z, upd_same⟩
        · obtain ⟨ps', a1, a2, a3⟩ := hT.l p hp
          exact ⟨ps', keep _ _ hb a1, a2, fun p' cv hcv => by obtain ⟨c0, e1, e2⟩ := a3 p' cv hcv; exact ⟨c0, e1, keep _ _ (codeK e2) e2⟩⟩
      · obtain ⟨ps', a1, a2, a3⟩ := hT.n P' hP'
        refine ⟨ps', keep _ _ (fun z => hg (List.mem_append_right _ (by rw [← z]; exact hP'))) a1, a2, fun p' cv hcv => ?_⟩
        obtain ⟨c0, P0, e1, e2, ⟨ps0, e3, e4⟩, e5⟩ := a3 p' cv hcv
        exact ⟨c0, P0, e1, keepC e2, ⟨ps0, keep _ _ (fun z => e5 (by rw [z]; exact hap)) e3, e4⟩, e5⟩
    have n0 : upd (upd H P (.tbl (ps ++ #[rawInt pos.line, rawInt pos.col, .ref c']))) c' (CodeO c' (X.env.qual ++ "<lambda>")) h'.objs.size = none := I0.hok.fresh (Nat.le_refl _)
    have I1 := I0.laid (a := h'.objs.size) (o := .frz (PySem.W.kla_obj "<lambda>" (X.env.qual ++ "<lambda>") params body scope (cloFrom X.env.cells scope.names []) ((X.mg "__name__").getD .none) c' ctv) (.own h'.objs.size)) (h' := h'.push (PySem.W.kla_obj "<lambda>" (X.env.qual ++ "<lambda>") params body scope (cloFrom X.env.cells scope.names []) ((X.mg "__name__").getD .none) c' ctv)) (t' := tk)
      (fun b u q => Heap.get?_push_of_some _ q) (Nat.le_refl _) ⟨Heap.get?_push_size _ rfl, _, Heap.get?_push_size _ rfl⟩
    have kp : ∀ b o, upd (upd H P (.tbl (ps ++ #[rawInt pos.line, rawInt pos.col, .ref c']))) c' (CodeO c' (X.env.qual ++ "<lambda>")) b = some o → upd (upd (upd H P (.tbl (ps ++ #[rawInt pos.line, rawInt pos.col, .ref c']))) c' (CodeO c' (X.env.qual ++ "<lambda>"))) h'.objs.size (.frz (PySem.W.kla_obj "<lambda>" (X.env.qual ++ "<lambda>") params body scope (cloFrom X.env.cells scope.names []) ((X.mg "__name__").getD .none) c' ctv) (.own h'.objs.size)) b = some o := fun b o e => by rw [upd_ne (ne_of_none e n0)]; exact e
    exact h _ c' _ _ I1 (fun b o hb e => kp _ _ (keep b o hb e)) (t0.keep kp) ⟨⟨_, _, upd_same⟩, kp _ _ upd_same⟩ (I.hok.fresh big)
end
/-- a row of lambdas -/
structure LamD where
  params : Arguments
  body : Expr
  scope : Scope
def LamOk (X : Cx) (l : LamD) : Prop := LamS X.env.scope l.scope ∧ defaultsOf l.params X.env = ([], []) ∧ ∀ (q : Str) (cl : List (Str × Addr)) (pm cv ctv : Value), bindArgs (PySem.W.kla_fn "<lambda>" q l.params l.body l.scope cl pm cv ctv) ⟨[], []⟩ = pure []
inductive FnsAt (X : Cx) (H : Hp) : List Addr → List LamD → Prop
  | nil : FnsAt X H [] []
  | cons {f c' : Addr} {l : LamD} {fs : List Addr} {ls : List LamD} : FnAt X H f c' l.params l.body l.scope → FnsAt X H fs ls → FnsAt X H (f :: fs) (l :: ls)
theorem FnsAt.ext {X : Cx} {P : Addr} {H H' : Hp} {ps : Array Value} (hP : H P = some (.tbl ps)) (e : ExtB P H H') : ∀ {fs : List Addr} {ls : List LamD}, FnsAt X H fs ls → FnsAt X H' fs ls
  | _, _, .nil => .nil
  | _, _, .cons h r => .cons (h.ext hP e) (r.ext hP e)
def tLams (T : Tb) (X : Cx) (P : Addr) (ls : List LamD) : TA := fun σ H Q => TOk T H ∧ ∀ fs H1, ExtB P H H1 → TOk T H1 → FnsAt X H1 fs ls → Q (fs.map .ref) H1
section
variable {X : Cx} {T : Tb} {c P : Addr}
theorem pa_lams (B : TabB X.base X.mg c P) (hcode : X.env.code = .ref c) (hm : (P, X.env.qual ++ "<lambda>") ∈ T.tl) (hu : ∀ p ∈ T.tl, p.1 = P → p.2 = X.env.qual ++ "<lambda>") (hg : P ∉ T.tg ++ T.tn) :
    ∀ (ls : List LamD) (ps : List Pos), ps.length = ls.length → (∀ l ∈ ls, LamOk X l) → PA X ((ls.zip ps).map fun q => .Lambda q.1.params q.1.body q.1.scope q.2) (tLams T X P ls)
  | [], _, _, _ => ⟨fun pos pins s σ H Q I h => pa_nil.run pos pins s σ H Q I (h.2 [] H (fun _ _ _ e => e) h.1 .nil)⟩
  | l :: ls, [], hl, _ => by cases hl
  | l :: ls, p :: ps, hl, hk => by
    have ih := pa_lams B hcode hm hu hg ls ps (by simpa using hl) fun l hl => hk l (List.mem_cons_of_mem _ hl)
    obtain ⟨hL, hd, hb⟩ := hk l List.mem_cons_self
    have h1 : PE X (.Lambda l.params l.body l.scope p) (fun σ H Q => TOk T H ∧ ∀ f c' H1, ExtB P H H1 → TOk T H1 → FnAt X H1 f c' l.params l.body l.scope → Q (.ref f) H1) :=
      ⟨fun pins s σ H Q I h => lam_keep I B hcode hm hu hg h.1 hd (hL.has I.ok) fun f c' H1 s' I1 e t fa _ => ⟨.ref f, H1, I1, rfl, h.2 f c' H1 e t fa⟩⟩
    have h2 := pa_cons h1 ih (by rfl)
    refine ⟨fun pos pins s σ H Q I h => h2.run pos pins s σ H Q I ⟨h.1, fun f c' H1 e t fa => ⟨t, fun fs H2 e2 t2 fas => ?_⟩⟩⟩
    obtain ⟨qs, hq, _⟩ := t.l _ hm
    exact h.2 (f :: fs) H2 (fun b o hb z => e2 b o hb (e b o hb z)) t2 (.cons (fa.ext hq e2) fas)
end
end PL
set_option Elab.async false
set_option linter.all false
set_option maxRecDepth 100000
set_option maxHeartbeats 2000000
namespace PL
open PySem PySem.Spec PyProof.Rows L2 LamX
section
variable {X : Cx} {pins : List (Addr × Obj)} {σ : L2.St} {H HZ : Hp} {s s1 : Shared}
theorem act_kept {CXg : CXT} {Eg : XK} {Ng : List Str} {qg : Str} {sg : Scope} {g f c' : Addr} {cdg : Value} {k i : Nat} {a : Str} {pn : List (Addr × Obj)} {xe : Value → Shared → Prop} {W : WX} {E : XK} {tb : TE} {p1 p2 : Pos} {l : LamD} (I : Inv X pins σ H s) (ok : LamOk X l) (fa : FnAt X H f c' l.params l.body l.scope)
    (tk : Takes ((cxOf CXg X.prog X.w X.K X.mg X.base Ng qg sg g cdg X.A X.stack s H Eg).tr pn xe) W) (hW : ∀ cls d σ' H', E cls d H' → W cls d σ' H') (hr : Room (k + 1) (X.A.deeper (envOfC qg sg s.heap.objs.size g cdg)))
    (hbody : ∀ (A : Around) (outer : List Env) (s : Shared) (H : Hp), Room k (A.deeper (lamEnv X l.scope s.heap.objs.size f c')) → PE (lamCx X A outer s H E l.scope f c') l.body tb) (hN : Ng[i]? = some a) (hv : Vis sg a) (hd : (a == ("__debug__" : Str)) = false := by decide) (hcd : (a == ("__classdict__" : Str)) = false := by decide) :
    PE ((cxOf CXg X.prog X.w X.K X.mg X.base Ng qg sg g cdg X.A X.stack s H Eg).tr pn xe) (.Call (.Name a p1) [] [] p2) (fun σZ HZ Q => σZ[i]? = some (some (.ref f)) ∧ HZ c' = some (CodeO c' (X.env.qual ++ "<lambda>")) ∧ tb σ HZ Q) := ⟨fun pz sz σz Hz Q Iz ⟨q1, q2, q3⟩ => by
  refine wpAny_Call_Name_kw (thn ((pe_var (pos := p1) (i := i) hN hv hd hcd).run pz sz σz Hz (fun v K1 => v = .ref f ∧ K1 = Hz) Iz ⟨.ref f, q1, rfl, rfl⟩) fun u s1 ⟨v, H1, I1, r1, ev, eH⟩ => ?_)
  subst ev eH
  obtain rfl : u = Value.ref f := r1
  have un : Un (frs X.stack) [] H H1 s.heap s1.heap := I1.base
  obtain ⟨⟨pm, ctv, fz⟩, _⟩ := fa
  obtain ⟨at1, _⟩ := I1.hok f _ (un.frzs f _ _ fz)
  obtain ⟨⟨oc, vs, t, co1, co2, co3⟩, _, _⟩ := I1.hok c' _ q2
  have run : codeAny (model X.prog X.w) (X.A.deeper (envOfC qg sg s.heap.objs.size g cdg)) (.call (.ref f) ⟨[], []⟩) (CR (L2.CX X.prog X.w) (envOfC qg sg s.heap.objs.size g cdg :: X.stack) X.prog X.w H1 s1 Q E) s1 := by
    refine PySem.W.kla_callFunE hr.depth at1 rfl ok.1.co ok.1.gen rfl ⟨c', oc, vs, t, rfl, co1, co2, co3⟩ ?_
    rw [ok.2.2]
    refine wpAny_pure (wpAny_newFunctionEnv (fun y hy => (ok.1.own y hy).2) (fun y hy => absurd hy (by simp)) (fun h₁ hns hsb => ⟨I1.nolimit.fresh _ hsb, ?_⟩) ok.1.kind)
    show codeAny _ _ (.expr l.body (lamEnv X l.scope s1.heap.objs.size f c')) _ _
    have J : Inv (lamCx X (X.A.deeper (envOfC qg sg s.heap.objs.size g cdg)) (envOfC qg sg s.heap.objs.size g cdg :: X.stack) s1 H1 E l.scope f c') [] σ H1 { s1 with heap := h₁, toks := s1.toks + ([] : List (Str × Value)).length } :=
      lam_start2 I ok.1 I1.env0 hr.hd un hns fun b o e => hsb.extBut b o (Nat.ne_of_lt (Heap.lt_size e)) (Heap.get?_push_of_some _ e)
    exact PySem.W.kla_codeExpr (wpAny_mono ((hbody _ _ s1 H1 (hr.deeper _)).run [] _ _ H1 Q J q3) (fun v s' ⟨w', H', J', rv, q⟩ => ⟨w', H', J'.os, J'.bare, J'.base, J'.hok, rv, q⟩) fun e s' hq => hq)
  have pass : Passes (L2.CX X.prog X.w) ((cxOf CXg X.prog X.w X.K X.mg X.base Ng qg sg g cdg X.A X.stack s H Eg).tr pn xe) E := passes_call tk hW
  refine PySem.W.callWith_F0 ⟨_, _, _, _, at1⟩ (wpAny_call (codeAny_mono run fun r s' hq => ?_))
  match r, hq with
  | .error e, hq => exact pass pz σz H1 s1 e s' I1 hq
  | .ok (.ret u), hq => exact I1.after hq
  | .ok .next, hq => exact False.elim hq
  | .ok .brk, hq => exact False.elim hq
  | .ok .cont, hq => exact False.elim hq⟩
end
/-- the classes, each with the answers -/
abbrev ATab := List (Addr × List Bool)
def TTold7 (tbl : ATab) : (XK → Hp → VK → Prop) → Hp → VK → Prop := fun tl H Q => tl (fun cls dd H' => ∃ C bs, cls = .ref C ∧ (C, bs) ∈ tbl ∧ (∀ x, dd = some x → ∃ fs, H' x = some (.xd fs)) ∧
  ∀ a H'', (∀ b o, H' b = some o → H'' b = some o) → H' a = none → H'' a = some (.lst (bs.map .bl)) → Q (.ref a) H'') H (fun _ H' => tLst tNil [] H' Q)
end PL
set_option Elab.async false
set_option linter.all false
set_option maxRecDepth 100000
set_option maxHeartbeats 2000000
namespace PL
open PySem PySem.Spec PyProof.Rows L2 LamX
def tIsi (K : PySem.W.Frag) (D a : Addr) (d : Option Addr) (ie : Nat) (cv : V) : TE := tCB (rIsO K D a d) (tCons (tVar ie) (tCons (tC cv) tNil))
/-- the suite's reading for the class D: 7 answers in a new list -/
def tSuite7 (K : PySem.W.Frag) (D a : Addr) (d : Option Addr) (ie is : Nat) (C1 C2 C3 C4 C5 C6 : Addr) : TS := tSeq (tAsg (tLst (tCons (tIsi K D a d ie (.ref C1)) (tCons (tIsi K D a d ie (.ref C2)) (tCons (tIsi K D a d ie (.ref C3)) (tCons (tIsi K D a d ie (.ref C4)) tNil))))) (gName is)) (tRet (tOp rCat (tVar is) (tLst (tCons (tIsi K D a d ie (.ref C5)) (tCons (tIsi K D a d ie (.ref C6)) (tCons (tIsi K D a d ie (.ty "ValueError")) tNil))))))
section
variable {X : Cx}
theorem suite7 {ie is : Nat} {n m x1 x2 x3 x4 x5 x6 : Str} {a D C1 C2 C3 C4 C5 C6 : Addr} {oe : Obj} {d : Option Addr} {pn : List (Addr × Obj)} {p5 p6 p7 p8 p9 p10 p11 a1 b1 c1 d1 a2 b2 c2 d2 a3 b3 c3 d3 a4 b4 c4 d4 a5 b5 c5 d5 a6 b6 c6 d6 a7 b7 c7 d7 : Pos} (nd : X.N.Nodup) (hN : X.N[ie]? = some n) (hv : Vis X.env.scope n) (hM : X.N[is]? = some m) (hw : Vis X.env.scope m) (hl : Loc X.env.scope m) (hf2 : X.env.scope.names.lookup m = some .local)
    (gi : Gl X "isinstance") (mi : X.mg "isinstance" = none) (gV : Gl X "ValueError") (mV : X.mg "ValueError" = none) (g1 : Gl X x1) (m1 : X.mg x1 = some (.ref C1)) (e1 : (x1 == ("__debug__" : Str)) = false) (g2 : Gl X x2) (m2 : X.mg x2 = some (.ref C2)) (e2 : (x2 == ("__debug__" : Str)) = false) (g3 : Gl X x3) (m3 : X.mg x3 = some (.ref C3)) (e3 : (x3 == ("__debug__" : Str)) = false) (g4 : Gl X x4) (m4 : X.mg x4 = some (.ref C4)) (e4 : (x4 == ("__debug__" : Str)) = false) (g5 : Gl X x5) (m5 : X.mg x5 = some (.ref C5)) (e5 : (x5 == ("__debug__" : Str)) = false) (g6 : Gl X x6) (m6 : X.mg x6 = some (.ref C6)) (e6 : (x6 == ("__debug__" : Str)) = false)
    (hC : ExcC X.K D) (hz : Zc (.ref D) d oe) (hf : ∃ vs, oe.data = .fields vs) (dn : (n == ("__debug__" : Str)) = false) (cn : (n == ("__classdict__" : Str)) = false) (dm : (m == ("__debug__" : Str)) = false) (cm : (m == ("__classdict__" : Str)) = false) :
    PSs (X.suite a ((a, oe) :: pn)) [.Assign [.Name m p5] (.List [.Call (.Name "isinstance" a1) [.Name n b1, .Name x1 c1] [] d1, .Call (.Name "isinstance" a2) [.Name n b2, .Name x2 c2] [] d2, .Call (.Name "isinstance" a3) [.Name n b3, .Name x3 c3] [] d3, .Call (.Name "isinstance" a4) [.Name n b4, .Name x4 c4] [] d4] p6) p7, .Return (some (.BinOp (.Name m p8) .Add (.List [.Call (.Name "isinstance" a5) [.Name n b5, .Name x5 c5] [] d5, .Call (.Name "isinstance" a6) [.Name n b6, .Name x6 c6] [] d6, .Call (.Name "isinstance" a7) [.Name n b7, .Name "ValueError" c7] [] d7] p9) p10)) p11] (tSuite7 X.K D a d ie is C1 C2 C3 C4 C5 C6) := by
  have bi : bootBuiltins "isinstance" = some (.builtin "isinstance") := by decide +kernel
  refine pss_cons (ps_set (i := is) nd hM hl (pe_lst (pa_cons (pe_callB (call_isO hC hz hf) gi mi bi (pa_cons (pe_var hN hv dn cn) (pa_cons (pe_glob g1 m1 rfl e1) pa_nil))) (pa_cons (pe_callB (call_isO hC hz hf) gi mi bi (pa_cons (pe_var hN hv dn cn) (pa_cons (pe_glob g2 m2 rfl e2) pa_nil))) (pa_cons (pe_callB (call_isO hC hz hf) gi mi bi (pa_cons (pe_var hN hv dn cn) (pa_cons (pe_glob g3 m3 rfl e3) pa_nil))) (pa_cons (pe_callB (call_isO hC hz hf) gi mi bi (pa_cons (pe_var hN hv dn cn) (pa_cons (pe_glob g4 m4 rfl e4) pa_nil))) pa_nil))))) (by rfl) (.inr hf2)) (pss_one (ps_ret (pe_op op_cat (pe_var hM hw dm cm) (pe_lst (pa_cons (pe_callB (call_isO hC hz hf) gi mi bi (pa_cons (pe_var hN hv dn cn) (pa_cons (pe_glob g5 m5 rfl e5) pa_nil))) (pa_cons (pe_callB (call_isO hC hz hf) gi mi bi (pa_cons (pe_var hN hv dn cn) (pa_cons (pe_glob g6 m6 rfl e6) pa_nil))) (pa_cons (pe_callB (call_isO hC hz hf) gi mi bi (pa_cons (pe_var hN hv dn cn) (pa_cons (pe_bltn gV mV boot_ValueError rfl) pa_nil))) pa_nil)))))))
/-- its classes and their answers -/
def Ans7 (K : PySem.W.Frag) (C1 C2 C3 C4 C5 C6 D : Addr) (bs : List Bool) : Prop := ∃ b1 b2 b3 b4 b5 b6 b7, bs = [b1, b2, b3, b4, b5, b6, b7] ∧ PySem.W.kitOne K (.ref D) (.ref C1) = some b1 ∧ PySem.W.kitOne K (.ref D) (.ref C2) = some b2 ∧ PySem.W.kitOne K (.ref D) (.ref C3) = some b3 ∧ PySem.W.kitOne K (.ref D) (.ref C4) = some b4 ∧ PySem.W.kitOne K (.ref D) (.ref C5) = some b5 ∧ PySem.W.kitOne K (.ref D) (.ref C6) = some b6 ∧ PySem.W.kitOne K (.ref D) (.type "ValueError") = some b7
theorem isi_run {K : PySem.W.Frag} {D a : Addr} {d : Option Addr} {ie : Nat} {c : V} {cv : Value} {b : Bool} {σ : L2.St} {H : Hp} {Q : VK} (hs : σ[ie]? = some (some (.ref a))) (hc : ∀ u, RelV c u → u = cv) (hk : PySem.W.kitOne K (.ref D) cv = some b) (hd : ∀ x, d = some x → ∃ fs, H x = some (.xd fs)) (q : Q (.bl b) H) : tIsi K D a d ie c σ H Q :=
  ⟨_, hs, c, cv, b, rfl, hc, hk, hd, q⟩
theorem suite7_run {K : PySem.W.Frag} {D a : Addr} {d : Option Addr} {ie is : Nat} {C1 C2 C3 C4 C5 C6 : Addr} {bs : List Bool} {σ : L2.St} {H : Hp} {E : Ends} (hk : Ans7 K C1 C2 C3 C4 C5 C6 D bs) (ne : ie ≠ is) (hi : is < σ.length) (hs : σ[ie]? = some (some (.ref a))) (hd : ∀ x, d = some x → ∃ fs, H x = some (.xd fs))
    (q : ∀ l H', (∀ b o, H b = some o → H' b = some o) → H l = none → H' l = some (.lst (bs.map .bl)) → E.rt (.ref l) H') : tSuite7 K D a d ie is C1 C2 C3 C4 C5 C6 E σ H := by
  obtain ⟨b1, b2, b3, b4, b5, b6, b7, rfl, k1, k2, k3, k4, k5, k6, k7⟩ := hk
  refine isi_run hs (fun _ z => z) k1 hd (isi_run hs (fun _ z => z) k2 hd (isi_run hs (fun _ z => z) k3 hd (isi_run hs (fun _ z => z) k4 hd ⟨by show 4 ≤ sizeLine; decide, fun p hp => ?_⟩)))
  have hs2 : (σ.set is (some (V.ref p)))[ie]? = some (some (.ref a)) := by rw [List.getElem?_set_ne (Ne.symm ne)]; exact hs
  have kp : ∀ b o, H b = some o → upd H p (.lst [.bl b1, .bl b2, .bl b3, .bl b4]) b = some o := fun b o e => by rw [upd_ne (ne_of_none e hp)]; exact e
  have hd2 : ∀ x, d = some x → ∃ fs, upd H p (.lst [.bl b1, .bl b2, .bl b3, .bl b4]) x = some (.xd fs) := fun x e => by obtain ⟨fs, h⟩ := hd x e; exact ⟨fs, kp _ _ h⟩
  refine ⟨_, List.getElem?_set_self hi, ?_⟩
  refine isi_run hs2 (fun _ z => z) k5 hd2 (isi_run hs2 (fun _ z => z) k6 hd2 (isi_run hs2 (fun _ z => z) k7 hd2 ⟨by show 3 ≤ sizeLine; decide, fun r hr => ?_⟩))
  have npr : p ≠ r := fun z => by rw [← z, upd_same] at hr; cases hr
  refine ⟨p, r, _, _, rfl, rfl, by rw [upd_ne npr]; exact upd_same, upd_same, (by show 4 + 3 ≤ sizeLine; decide), fun u hu => ?_⟩
  have nru : r ≠ u := fun z => by rw [← z, upd_same] at hu; cases hu
  have npu : p ≠ u := fun z => by rw [← z, upd_ne npr, upd_same] at hu; cases hu
  have hu2 : H u = none := by rw [upd_ne (Ne.symm nru), upd_ne (Ne.symm npu)] at hu; exact hu
  refine q u _ (fun b o e => ?_) hu2 upd_same
  rw [upd_ne (ne_of_none e hu2), upd_ne (ne_of_none (kp b o e) hr)]
  exact kp b o e
theorem told7_gives {Ng : List Str} {x a xH n m q x1 x2 x3 x4 x5 x6 : Str} {sg : Scope} {g CH C1 C2 C3 C4 C5 C6 : Addr} {cdg : Value} {ie is : Nat} {tbl : ATab} {p1 p2 p3 p4 p5 p6 p7 p8 p9 p10 p11 p12 p13 p14 p15 a1 b1 c1 d1 a2 b2 c2 d2 a3 b3 c3 d3 a4 b4 c4 d4 a5 b5 c5 d5 a6 b6 c6 d6 a7 b7 c7 d7 : Pos} (nd : Ng.Nodup) (hN : Ng[ie]? = some n) (hv : Vis sg n) (hln : sg.names.lookup n = some .local) (hM : Ng[is]? = some m) (hw : Vis sg m) (hl : Loc sg m) (hf2 : sg.names.lookup m = some .local) (ne : ie ≠ is)
    (gH : sg.names.lookup xH = some .globalImplicit) (mH : X.mg xH = some (.ref CH)) (dH : (xH == ("__debug__" : Str)) = false) (gi : sg.names.lookup ("isinstance" : Str) = some .globalImplicit) (mi : X.mg "isinstance" = none) (gV : sg.names.lookup ("ValueError" : Str) = some .globalImplicit) (mV : X.mg "ValueError" = none)
    (g1 : sg.names.lookup x1 = some .globalImplicit) (m1 : X.mg x1 = some (.ref C1)) (e1 : (x1 == ("__debug__" : Str)) = false) (g2 : sg.names.lookup x2 = some .globalImplicit) (m2 : X.mg x2 = some (.ref C2)) (e2 : (x2 == ("__debug__" : Str)) = false) (g3 : sg.names.lookup x3 = some .globalImplicit) (m3 : X.mg x3 = some (.ref C3)) (e3 : (x3 == ("__debug__" : Str)) = false) (g4 : sg.names.lookup x4 = some .globalImplicit) (m4 : X.mg x4 = some (.ref C4)) (e4 : (x4 == ("__debug__" : Str)) = false) (g5 : sg.names.lookup x5 = some .globalImplicit) (m5 : X.mg x5 = some (.ref C5)) (e5 : (x5 == ("__debug__" : Str)) = false) (g6 : sg.names.lookup x6 = some .globalImplicit) (m6 : X.mg x6 = some (.ref C6)) (e6 : (x6 == ("__debug__" : Str)) = false)
    (hEC : ∀ p ∈ tbl, ExcC X.K p.1) (hx : ∀ p ∈ tbl, PySem.W.exmOne X.K (.ref p.1) (.ref CH) = some true) (hk : ∀ p ∈ tbl, Ans7 X.K C1 C2 C3 C4 C5 C6 p.1 p.2) (dn : (n == ("__debug__" : Str)) = false) (cn : (n == ("__classdict__" : Str)) = false) (dm : (m == ("__debug__" : Str)) = false) (cm : (m == ("__classdict__" : Str)) = false)
    (h0 : ∀ f : Addr, (L2.start Ng [V.ref f])[0]? = some (some (V.ref f))) :
    GivesTo X Ng x sg g cdg [.Try [.Expr (.Call (.Name a p1) [] [] p2) p3] [.ExceptHandler (some (.Name xH p4)) (some n) [.Assign [.Name m p5] (.List [.Call (.Name "isinstance" a1) [.Name n b1, .Name x1 c1] [] d1, .Call (.Name "isinstance" a2) [.Name n b2, .Name x2 c2] [] d2, .Call (.Name "isinstance" a3) [.Name n b3, .Name x3 c3] [] d3, .Call (.Name "isinstance" a4) [.Name n b4, .Name x4 c4] [] d4] p6) p7, .Return (some (.BinOp (.Name m p8) .Add (.List [.Call (.Name "isinstance" a5) [.Name n b5, .Name x5 c5] [] d5, .Call (.Name "isinstance" a6) [.Name n b6, .Name x6 c6] [] d6, .Call (.Name "isinstance" a7) [.Name n b7, .Name "ValueError" c7] [] d7] p9) p10)) p11] p12] [] [] p13, .Return (some (.List [] p14)) p15] a q (TTold7 tbl) := by
  intro f c' s H Q tl act hc h
  let Z := (cxOf C8.CX0 X.prog X.w X.K X.mg X.base Ng x sg g cdg X.A X.stack s H C8.E0).nox
  refine ⟨_, pss_cons (ps_try_as (X := Z) (c := .ref CH) (i := ie) (n := n) (Wout := fun _ _ _ _ => False) (ts := fun a' cls d E σ H => ie < σ.length → is < σ.length → ∃ D, cls = .ref D ∧ (D ∈ tbl.map (·.1)) ∧ tSuite7 X.K D a' d ie is C1 C2 C3 C4 C5 C6 E σ H)
      (tb := fun W D σ H => ∃ Ech : XK, (∀ cls d σ' H', Ech cls d H' → W cls d σ' H') ∧ σ[0]? = some (some (.ref f)) ∧ H c' = some (CodeO c' q) ∧ tl Ech H (fun _ H' => D.nx σ H')) rfl rfl nd hN hln ⟨gH, dH, .inl mH⟩ LamX.takes0 (fun W pn xe tk _ => ?_) fun a' oe cls d pn hz hf => ?_)
    (pss_one (ps_ret (pe_lst pa_nil))), ?_⟩
  · exact ⟨fun pins s' σ H' D I ⟨Ech, hW, h1, h2, h3⟩ => (pss_one (ps_expr (pos := p3) (act W pn xe Ech p1 p2 tk hW))).run pins s' σ H' D I ⟨h1, h2, h3⟩⟩
  · refine ⟨fun pins s' σ H' E I qq => ?_⟩
    obtain ⟨D, ec, hD, q2⟩ := qq (by rw [I.len]; exact (List.getElem?_eq_some_iff.mp hN).1) (by rw [I.len]; exact (List.getElem?_eq_some_iff.mp hM).1)
    subst ec
    obtain ⟨p, hp, rfl⟩ := List.mem_map.mp hD
    exact (suite7 (X := Z) nd hN hv hM hw hl hf2 gi mi gV mV g1 m1 e1 g2 m2 e2 g3 m3 e3 g4 m4 e4 g5 m5 e5 g6 m6 e6 (hEC p hp) hz hf dn cn dm cm).run pins s' σ H' E I q2
  · refine ⟨_, fun cls d σ' H' hx' => ?_, h0 f, hc, h⟩
    obtain ⟨D, bs, rfl, hm, hd, hQ⟩ := hx'
    refine ⟨true, hx _ hm, fun _ a' ha' hj hi => ⟨D, rfl, List.mem_map.mpr ⟨_, hm, rfl⟩, ?_⟩, fun z => by cases z⟩
    refine suite7_run (hk _ hm) ne hi ?_ hd fun l H2 e1 e2 e3 => hQ l H2 e1 e2 e3
    exact List.getElem?_set_self (by rw [List.length_set] at hj; exact hj)
end
end PL
set_option Elab.async false
set_option linter.all false
set_option maxRecDepth 100000
set_option maxHeartbeats 2000000
namespace PL
open PySem PySem.Spec PyProof.Rows L2 LamX
def mk (f : Addr) : PyData := .dict [(.bool true, .int f)]
def FO (X : Cx) (l : LamD) (f c' : Addr) (pm ctv : Value) : HO := .frz (PySem.W.kla_obj "<lambda>" (X.env.qual ++ "<lambda>") l.params l.body l.scope (cloFrom X.env.cells l.scope.names []) pm c' ctv) (.own f)
/-- what is known of the functions: they and their code objects stand in kn -/
inductive FnsK (X : Cx) (kn : List (Addr × HO)) : List Addr → List LamD → Prop
  | nil : FnsK X kn [] []
  | cons {f c' : Addr} {pm ctv : Value} {l : LamD} {fs : List Addr} {ls : List LamD} : (f, FO X l f c' pm ctv) ∈ kn → (c', CodeO c' (X.env.qual ++ "<lambda>")) ∈ kn → FnsK X kn fs ls → FnsK X kn (f :: fs) (l :: ls)
theorem FnsK.more {X : Cx} {kn kn' : List (Addr × HO)} (h : ∀ q ∈ kn, q ∈ kn') : ∀ {fs : List Addr} {ls : List LamD}, FnsK X kn fs ls → FnsK X kn' fs ls
  | _, _, .nil => .nil
  | _, _, .cons a b r => .cons (h _ a) (h _ b) (r.more h)
def KnOk (kn : List (Addr × HO)) (H : Hp) : Prop := ∀ q ∈ kn, H q.1 = some q.2 ∧ ((∃ oc, q.2 = .frz oc (.own q.1)) ∨ ∃ s, q.2 = CodeO q.1 s)
theorem fns_kn {X : Cx} {H : Hp} : ∀ {fs : List Addr} {ls : List LamD}, FnsAt X H fs ls → ∃ kn, FnsK X kn fs ls ∧ KnOk kn H
  | _, _, .nil => ⟨[], .nil, fun q hq => by cases hq⟩
  | _, _, .cons (f := f) (c' := c') (l := l) ⟨⟨pm, ctv, h1⟩, h2⟩ r => by
    obtain ⟨kn, k1, k2⟩ := fns_kn r
    refine ⟨(f, FO X l f c' pm ctv) :: (c', CodeO c' (X.env.qual ++ "<lambda>")) :: kn, .cons List.mem_cons_self (List.mem_cons_of_mem _ List.mem_cons_self) (k1.more fun q hq => List.mem_cons_of_mem _ (List.mem_cons_of_mem _ hq)), fun q hq => ?_⟩
    rcases List.mem_cons.mp hq with rfl | hq
    · exact ⟨h1, .inl ⟨_, rfl⟩⟩
    · rcases List.mem_cons.mp hq with rfl | hq
      · exact ⟨h2, .inr ⟨_, rfl⟩⟩
      · exact k2 q hq
theorem fns_any {X : Cx} : ∀ {fs : List Addr} {ls : List LamD}, fs.length = ls.length → ∃ kn, FnsK X kn fs ls
  | [], [], _ => ⟨[], .nil⟩
  | [], _ :: _, h => by cases h
  | _ :: _, [], h => by cases h
  | f :: fs, l :: ls, h => by
    obtain ⟨kn, k⟩ := fns_any (X := X) (fs := fs) (ls := ls) (by simpa using h)
    exact ⟨(f, FO X l f 0 .none .none) :: (0, CodeO 0 (X.env.qual ++ "<lambda>")) :: kn, .cons List.mem_cons_self (List.mem_cons_of_mem _ List.mem_cons_self) (k.more fun q hq => List.mem_cons_of_mem _ (List.mem_cons_of_mem _ hq))⟩
theorem FnsAt.length {X : Cx} {H : Hp} : ∀ {fs : List Addr} {ls : List LamD}, FnsAt X H fs ls → fs.length = ls.length
  | _, _, .nil => rfl
  | _, _, .cons _ r => congrArg (· + 1) r.length
def sLams (i n : Nat) (w : List Addr → SW) : SW := fun ρ D => ∀ fs : List Addr, fs.length = n → w fs (ρ.set i (.sh (.list (fs.map mk)))) D
section
variable {T : Tb} {X : Cx} {W : WX} {pos p pos' lpos : Pos} {K : PySem.W.Frag} {G : Gh} {ρ : En} {σ : L2.St} {H H' : Hp} {D : Ends}
theorem Rep.withK {kn : List (Addr × HO)} (r : Rep T K G ρ σ H) (k : KnOk kn H) : Rep { T with kn := kn } K G ρ σ H := ⟨r.len, r.slot, r.sep, ⟨r.tab.g, r.tab.l, r.tab.n, r.tab.c, k⟩, r.ext, r.dom, r.fly, r.dcs⟩
theorem Rep.lessK {kn : List (Addr × HO)} (r : Rep { T with kn := kn } K G ρ σ H) (h : ∀ q ∈ T.kn, q ∈ kn) : Rep T K G ρ σ H := ⟨r.len, r.slot, r.sep, ⟨r.tab.g, r.tab.l, r.tab.n, r.tab.c, fun q hq => r.tab.k q (h q hq)⟩, r.ext, r.dom, r.fly, r.dcs⟩
theorem endS_lessK {kn : List (Addr × HO)} (sub : ∀ q ∈ T.kn, q ∈ kn) : PEn.Le (endS T K W G D) (endS { T with kn := kn } K W G D) := by
  refine ⟨fun ρ' h => ?_, fun d h => ?_, fun ρ' h => ?_, fun ρ' h => ?_, fun x h => ?_, fun d h => ?_⟩
  · exact fun σ' H' O' r' => h σ' H' O' (r'.lessK sub)
  · exact fun v ρ' σ' H' O' r' => h v ρ' σ' H' O' (r'.lessK sub)
  · exact fun σ' H' O' r' => h σ' H' O' (r'.lessK sub)
  · exact fun σ' H' O' r' => h σ' H' O' (r'.lessK sub)
  · exact fun ρ' σ' H' O' cls dd r' => h ρ' σ' H' O' cls dd (r'.lessK sub)
  · exact fun v ρ' σ' H' O' r' => h v ρ' σ' H' O' (r'.lessK sub)
theorem marks_da : ∀ fs : List Addr, DaAll K H (fs.map .ref) (fs.map mk)
  | [] => .nil
  | f :: fs => .cons (.ob ⟨f, rfl, rfl⟩) (marks_da fs)
theorem dss_lams {i n : Nat} {x : Str} {c P : Addr} {rest : List Stmt} {w : List Addr → SW} {es : List Expr} (ls : List LamD) (ps : List Pos) (hN : X.N.Nodup) (hi : X.N[i]? = some x) (hx : Loc X.env.scope x) (B : TabB X.base X.mg c P) (hcode : X.env.code = .ref c) (hm : (P, X.env.qual ++ "<lambda>") ∈ T.tl)
    (hu : ∀ p ∈ T.tl, p.1 = P → p.2 = X.env.qual ++ "<lambda>") (hg : P ∉ T.tg ++ T.tn) (he : es = (ls.zip ps).map fun q => .Lambda q.1.params q.1.body q.1.scope q.2) (hl : ps.length = ls.length) (hn : ls.length = n) (hz : n ≤ sizeLine) (hk : ∀ l ∈ ls, LamOk X l)
    (hs : swapsWith (.List es lpos) (some (.Name x pos')) pos.line X.env = pure false) (hf : X.fn x = true ∨ X.env.scope.names.lookup x = some .local) (hr : ∀ kn fs, FnsK X kn fs ls → (∀ q ∈ T.kn, q ∈ kn) → DSs { T with kn := kn } X W rest (w fs)) :
    DSs T X W (.Assign [.Name x pos'] (.List es lpos) pos :: rest) (sLams i n w) := by
  subst he hn
  refine ⟨pss_mono (pss_cons (ps_set (i := i) hN hi hx (pe_lst (pa_lams B hcode hm hu hg ls ps hl hk)) hs hf) (u := fun D σ H => ∃ kn fs, FnsK X kn fs ls ∧ (∀ q ∈ T.kn, q ∈ kn) ∧ liftS { T with kn := kn } X.K W (w fs) D σ H)
    ⟨fun pins s σ H D I ⟨kn, fs, h1, h2, q⟩ => (hr kn fs h1 h2).ps.run pins s σ H D I q⟩) fun D σ H q => ?_, fun ρ D D' l q fs hfs => ?_⟩
  · obtain ⟨G, ρ, r, fa, q⟩ := q
    refine ⟨r.tab, fun fs H1 e t fas => ⟨by rw [List.length_map, fas.length]; exact hz, fun a ha => ?_⟩⟩
    have r1 := r.extB (r.tab.l _ hm) e t
    obtain ⟨r2, e2, _, h2⟩ := r1.new (o := .lst (fs.map .ref)) ha
    obtain ⟨kn, k1, k2⟩ := fns_kn fas
    have k3 : KnOk (kn ++ T.kn) (upd H1 a (.lst (fs.map .ref))) := fun q hq => by
      have : H1 q.1 = some q.2 ∧ ((∃ oc, q.2 = .frz oc (.own q.1)) ∨ ∃ s, q.2 = CodeO q.1 s) := (List.mem_append.mp hq).elim (k2 q) (t.k q)
      exact ⟨by rw [upd_ne (ne_of_none this.1 ha)]; exact this.1, this.2⟩
    have r3 := (r2.withK k3).setSh (i := i) (v := .ref a) (d := .list (fs.map mk)) (.lst h2 (marks_da fs))
    have hfs : FnsK X (kn ++ T.kn) fs ls := k1.more fun q hq => List.mem_append_left _ hq
    have sub : ∀ q ∈ T.kn, q ∈ kn ++ T.kn := fun q hq => List.mem_append_right _ hq
    refine ⟨kn ++ T.kn, fs, hfs, sub, G, _, r3, fa.setSh, (hr _ fs hfs sub).mono _ _ _ (endS_lessK sub) (q fs fas.length)⟩
  · obtain ⟨kn, k⟩ := fns_any (X := X) hfs
    exact (hr (kn ++ T.kn) fs (k.more fun q hq => List.mem_append_left _ hq) fun q hq => List.mem_append_right _ hq).mono _ _ _ l (q fs hfs)
end
end PL
set_option Elab.async false
set_option linter.all false
set_option maxRecDepth 100000
set_option maxHeartbeats 2000000
namespace PL
open PySem PySem.Spec PyProof.Rows L2 LamX
section
variable {T : Tb} {X : Cx} {W : WX} {pos p : Pos} {e : Expr} {K : PySem.W.Frag} {G : Gh} {ρ : En} {σ : L2.St} {H H' : Hp}
def tAct (X : Cx) (k : Nat) (TT : (XK → Hp → VK → Prop) → Hp → VK → Prop) (σ : L2.St) (Q : VK) (v : V) (H1 : Hp) : Prop := ∃ (f c' : Addr) (l : LamD) (t : XK → TE), v = .ref f ∧ FnAt X H1 f c' l.params l.body l.scope ∧ LamOk X l ∧
  (∀ (A : Around) (outer : List Env) (s : Shared) (H : Hp) (E : XK), Room k (A.deeper (lamEnv X l.scope s.heap.objs.size f c')) → PE (lamCx X A outer s H E l.scope f c') l.body (t E)) ∧ TT (fun E H' Q' => t E σ H' Q') H1 Q
def tToldV (X : Cx) (k : Nat) (TT : (XK → Hp → VK → Prop) → Hp → VK → Prop) (te : TE) : TE := fun σ H Q => te σ H (tAct X k TT σ Q)
theorem pe_toldV {TT : (XK → Hp → VK → Prop) → Hp → VK → Prop} {x a : Str} {g cg : Addr} {k : Nat} {stg : Stmt} {fdg : FuncData} {Ng : List Str} {te : TE} (hgl : Gl X x) (hmg : X.mg x = some (.ref g)) (F : FunC X.K x stg g cg fdg) (hb : L2.Binds X.K fdg [a] []) (Sg : FnScope Ng [a] (defScope stg)) (hNg : Ng[0]? = some a)
    (hva : Vis (defScope stg) a) (hG : GivesTo X Ng x (defScope stg) g (.ref cg) (defBody stg) a (X.env.qual ++ "<lambda>") TT) (hr : Room (k + 2) X.A) (he : PE X e te) (hdb : (x == ("__debug__" : Str)) = false := by decide) (hd : (a == ("__debug__" : Str)) = false := by decide) (hcd : (a == ("__classdict__" : Str)) = false := by decide)
    (hs : starEach [e] X.env = (false, eval e X.env) :: starEach [] X.env := by rfl) : PE X (.Call (.Name x p) [e] [] pos) (tToldV X k TT te) := by
  obtain ⟨oc, od, kV, doc, pm, an, ct, osl, rfl, lk, hcg⟩ := F.ex
  refine ⟨fun pins s σ H Q I h => wpAny_Call_Name_kw (ld_glob I hgl hmg ?_ hdb)⟩
  refine PySem.W.callWith_K (h₀ := X.base) I.ok.mod.kin F.kp (thn ((pa_cons he pa_nil hs).run pos pins s σ H (fun vs H1 => match vs with
    | [v] => tAct X k TT σ Q v H1
    | _ => False) I h) fun us s1 ⟨vs, H1, I1, r, q⟩ => ⟨I1.kIn, ?_⟩) hs (by rfl)
  match vs, r, q with
  | [v], r, q =>
  obtain ⟨f, c', l, t, rfl, fa, ok, hbd, hTT⟩ := q
  cases r with
  | cons r1 r2 =>
    cases r2
    obtain rfl : _ = Value.ref f := r1
    have run : codeAny (model X.prog X.w) X.A (.call (.ref g) ⟨[.ref f], []⟩) (CR C8.CX0 X.stack X.prog X.w H1 s1 Q C8.E0) s1 := run_ofS (N := Ng) (ps := [a]) (us := [.ref f]) (vs := [.ref f]) lk hcg Sg hr I1.env0 (hb s1 [.ref f] I1.kIn rfl) (.cons rfl .nil) rfl fun hr' => by
      obtain ⟨t', ht', hq'⟩ := hG f c' s1 H1 Q (fun E H' Q' => t E σ H' Q') (fun W pn xe E p1 p2 tk hW => act_kept (i := 0) I1 ok fa tk hW hr' (fun A outer s H hr2 => hbd A outer s H E hr2) hNg hva hd hcd) fa.2 hTT
      exact ⟨t', ht'.nox, hq'⟩
    refine wpAny_call (codeAny_mono run fun r s2 hq => ?_)
    match r, hq with
    | .error e, hq => exact False.elim hq
    | .ok (.ret u), hq => exact I1.after hq
    | .ok .next, hq => exact False.elim hq
    | .ok .brk, hq => exact False.elim hq
    | .ok .cont, hq => exact False.elim hq
theorem mk_inv {v : V} {f : Addr} (h : Da K H v (mk f)) : v = .ref f := by
  unfold mk at h
  generalize hd : PyData.dict [(.bool true, .int f)] = d at h
  have kd : ∀ k : Key, keyD k ≠ .bool true := fun k e => by cases k <;> cases e
  cases h with
  | dk h1 h2 =>
    rename_i a kvs ds
    injection hd with hd
    cases kvs with
    | nil => cases hd
    | cons q r => cases ds with
      | nil => cases hd
      | cons y t => exact absurd (Prod.mk.inj (List.cons.inj hd).1).1.symm (kd _)
  | dt h1 h2 h3 =>
    rename_i a kvs ds
    injection hd with hd
    cases kvs with
    | nil => cases hd
    | cons q r => cases ds with
      | nil => cases hd
      | cons y t => exact absurd (Prod.mk.inj (List.cons.inj hd).1).1 (fun z => by cases z)
  | dte h1 => cases hd
  | ob h1 =>
    cases hd
    obtain ⟨n, h2, h3⟩ := h1
    rw [h3, show f = n from Int.ofNat.inj h2]
  | _ => cases hd
theorem FnsK.at {kn : List (Addr × HO)} : ∀ {fs : List Addr} {ls : List LamD} {j : Nat} {f : Addr}, FnsK X kn fs ls → fs[j]? = some f → ∃ l c' pm ctv, ls[j]? = some l ∧ (f, FO X l f c' pm ctv) ∈ kn ∧ (c', CodeO c' (X.env.qual ++ "<lambda>")) ∈ kn
  | _, _, _, _, .nil, e => by simp at e
  | _, _, 0, _, .cons a b _, e => by simp at e; subst e; exact ⟨_, _, _, _, rfl, a, b⟩
  | _, _, j + 1, _, .cons _ _ r, e => by
    obtain ⟨l, c', pm, ctv, h⟩ := FnsK.at (j := j) r (by simpa using e)
    exact ⟨l, c', pm, ctv, by simpa using h.1, h.2⟩
def wToldV (fs : List Addr) (ws : List PW) (tbl : ATab) (we : PW) : PW := fun ρ Q E => we ρ (fun d => ∃ (j : Nat) (f : Addr) (w : PW), d = mk f ∧ fs[j]? = some f ∧ ws[j]? = some w ∧ w ρ (fun _ => Q (.list [])) fun x => ∃ bs, (x.cls, bs) ∈ tbl ∧ Q (.list (bs.map .bool))) E
theorem bools_da : ∀ bs : List Bool, DaAll K H (bs.map .bl) (bs.map .bool)
  | [] => .nil
  | b :: bs => .cons (.bl b) (bools_da bs)
theorem de_toldv {x a : Str} {g cg : Addr} {k : Nat} {stg : Stmt} {fdg : FuncData} {Ng : List Str} {we : PW} {fs : List Addr} {ls : List LamD} {ws : List PW} {tbl : ATab} (hgl : Gl X x) (hmg : X.mg x = some (.ref g)) (F : FunC X.K x stg g cg fdg) (hb : L2.Binds X.K fdg [a] []) (Sg : FnScope Ng [a] (defScope stg))
    (hNg : Ng[0]? = some a) (hva : Vis (defScope stg) a) (hG : GivesTo X Ng x (defScope stg) g (.ref cg) (defBody stg) a (X.env.qual ++ "<lambda>") (TTold7 tbl)) (hr : Room (k + 2) X.A) (h : DE T X W e we) (hk : FnsK X T.kn fs ls) (hok : ∀ l ∈ ls, LamOk X l) (mw : ∀ w ∈ ws, Mono w)
    (hbody : ∀ (j : Nat) (l : LamD) (w : PW), ls[j]? = some l → ws[j]? = some w → ∀ (A : Around) (outer : List Env) (s : Shared) (H : Hp) (E : XK) (f c' : Addr), Room k (A.deeper (lamEnv X l.scope s.heap.objs.size f c')) → DE T (lamCx X A outer s H E l.scope f c') (fun cls d _ H => E cls d H) l.body w)
    (hdb : (x == ("__debug__" : Str)) = false := by decide) (hd : (a == ("__debug__" : Str)) = false := by decide) (hcd : (a == ("__classdict__" : Str)) = false := by decide) (hs : starEach [e] X.env = (false, eval e X.env) :: starEach [] X.env := by rfl) :
    DE T X W (.Call (.Name x p) [e] [] pos) (wToldV fs ws tbl we) :=
  ⟨pe_mono (pe_toldV (k := k) (TT := TTold7 tbl) hgl hmg F hb Sg hNg hva hG hr h.pe hdb hd hcd hs) fun σ H Q q => by
    obtain ⟨G, ρ, r, q⟩ := q
    refine ⟨G, ρ, r, h.mono _ _ _ _ _ (fun d hd v H1 r1 a1 => ?_) (fun _ z => z) q⟩
    obtain ⟨j, f, w, rfl, hf, hw, q⟩ := hd
    obtain ⟨l, c', pm, ctv, hl, k1, k2⟩ := hk.at hf
    have hm : l ∈ ls := List.mem_of_getElem? hl
    refine ⟨f, c', l, fun E => lift T X.K (fun cls d _ H => E cls d H) w, mk_inv a1, ⟨⟨pm, ctv, (r1.tab.k _ k1).1⟩, (r1.tab.k _ k2).1⟩, hok l hm, fun A outer s H E hr => (hbody j l w hl hw A outer s H E f c' hr).pe, ?_⟩
    refine ⟨G, ρ, r1, mw w (List.mem_of_getElem? hw) _ _ _ _ _ (fun d hq v H2 r2 a2 => ⟨Nat.zero_le _, fun p hp => ?_⟩) (fun x hx H2 cls dd r2 ex => ?_) q⟩
    · obtain ⟨r3, _, _, h3⟩ := r2.new (o := .lst []) hp
      exact hq _ _ r3 (.lst h3 .nil)
    · obtain ⟨bs, hbs, hq⟩ := hx
      refine ⟨x.cls, bs, ex.1, hbs, fun y hy => ?_, fun a' H3 e1 e2 e3 => ?_⟩
      · have ex2 := ex.2
        cases hfl : x.fld with
        | none => rw [hfl] at ex2; rw [show dd = none from ex2] at hy; cases hy
        | some fd =>
          rw [hfl] at ex2
          obtain ⟨b, v', h1, h2, _⟩ := ex2
          rw [h1] at hy
          cases hy
          exact ⟨_, (hide_some h2).2⟩
      · have na : a' ∉ G.O := fun z => by obtain ⟨o, ho, _⟩ := r2.dom a' z; rw [e2] at ho; cases ho
        exact hq _ _ (r2.alloc e1) (.lst (by rw [hide_out na]; exact e3) (bools_da bs)),
   fun ρ Q Q' E E' hq he q => h.mono _ _ _ _ _ (fun d ⟨j, f, w, h1, h2, h3, h4⟩ => ⟨j, f, w, h1, h2, h3, mw w (List.mem_of_getElem? h3) _ _ _ _ _ (fun _ z => hq _ z) (fun x ⟨bs, z1, z2⟩ => ⟨bs, z1, hq _ z2⟩) h4⟩) he q⟩
end
end PL
set_option Elab.async false
set_option linter.all false
set_option maxRecDepth 100000
set_option maxHeartbeats 2000000
namespace PL
open PySem PySem.Spec PyProof.Rows L2
open LamX (ExtN Tabs TabS)
structure FunM (K : PySem.W.Frag) (x y : Str) (st : Stmt) (f c : Addr) (fd : FuncData) : Prop where
  ex : ∃ (oc : Value) (od : Option Addr) (kV doc pm : Value) (an : Option Addr) (ct : Value) (osl : Array (Option Value)),
    fd = PySem.W.fnOf x y (defArgs st) (defBody st) (defScope st) .none kV doc pm an (.ref c) ct ∧ K.lookup f = some ⟨oc, od, .func fd, osl⟩ ∧ PySem.W.codeIn K (.ref c) y = true
  kp : PySem.W.keepIn K (.ref f) = true
section
variable {P : Program} {w : World} {K : PySem.W.Frag} {mg : Str → Option Value} {base : Heap} {x y : Str} {st : Stmt} {f c : Addr} {fd : FuncData} {N ps : List Str} {k : Nat} {sp : Sp} {T : Tb}
theorem FunM.okX (F : FunM K x y st f c fd) (S : FnScope N ps (defScope st)) (len : ∀ vs H Q E, sp vs H Q E → vs.length = ps.length)
    (hbody : ∀ (A : Around) (outer : List Env) (s : Shared) (H : Hp) (vs : List V) (Q : VK) (E : XK), Room k (A.deeper (envOfC y (defScope st) s.heap.objs.size f (.ref c))) → sp vs H Q E →
      ∃ t, PSs (cxOf (L2.CX P w) P w K mg base N y (defScope st) f (.ref c) A outer s H E) (defBody st) t ∧ t { nx := fun _ H' => Q .non H', rt := Q } (start N vs) H) : FnOk P w K mg base (L2.CX P w) (k + 1) f fd ps sp := by
  obtain ⟨oc, od, kV, doc, pm, an, ct, osl, rfl, lk, hcd⟩ := F.ex
  exact fn_of lk hcd S len fun A outer s H vs Q E hr hsp => hbody A outer s H vs Q E hr hsp
theorem FunM.binds (F : FunM K x y st f c fd)
    (h : ∀ (kV doc pm : Value) (an : Option Addr) (cdv ct : Value) (us : List Value), us.length = ps.length → bindArgs (PySem.W.fnOf x y (defArgs st) (defBody st) (defScope st) .none kV doc pm an cdv ct) ⟨us, []⟩ = pure (ps.zip us)) : Binds K fd ps [] := by
  obtain ⟨oc, od, kV, doc, pm, an, ct, osl, rfl, lk, hcd⟩ := F.ex
  exact .all (h kV doc pm an (.ref c) ct)
theorem fn_okDM {u : SW} (F : FunM K x y st f c fd) (S : FnScope N ps (defScope st))
    (hb : ∀ (A : Around) (outer : List Env) (s : Shared) (H : Hp) (E : XK), Room k (A.deeper (envOfC y (defScope st) s.heap.objs.size f (.ref c))) →
      DSs T (cxOf (L2.CX P w) P w K mg base N y (defScope st) f (.ref c) A outer s H E) (fun cls d _ H => E cls d H) (defBody st) u) : FnOk P w K mg base (L2.CX P w) (k + 1) f fd ps (spD T K ps.length (cOf N u)) := by
  refine F.okX S (fun vs H Q E h => ?_) (fun A outer s H vs Q E hr h => ⟨_, (hb A outer s H E hr).ps, ?_⟩)
  · obtain ⟨O, ρ, h1, h2, _⟩ := h
    have := h2.len
    rw [List.length_map] at this
    omega
  · obtain ⟨O, ρ, h1, r, no, q⟩ := h
    have hl : ρ.length = vs.length := by have := r.len; rw [List.length_map] at this; exact this
    refine ⟨⟨hide O H, O, flOf T.dc O H⟩, ρ ++ List.replicate (N.length - ρ.length) .un, ?_, fun q hq j t hj ht e => ?_, ?_⟩
    · rw [start_eq hl]
      exact r.more _
    · exfalso
      by_cases z : j < ρ.length
      · rw [List.getElem?_append_left z] at hj
        rw [no t (List.mem_of_getElem? hj)] at ht
        cases ht
      · rw [List.getElem?_append_right (by omega), List.getElem?_replicate] at hj
        split at hj
        · cases hj; cases ht
        · cases hj
    · refine (hb A outer s H E hr).mono _ { nx := fun _ => ∀ v H', Back T O H H' → Da K (hide O H') v .none → Q v H', rt := fun d => ∀ v H', Back T O H H' → Da K (hide O H') v d → Q v H', ex := fun x => ∀ H' cls dd, Back T O H H' → ExR K x cls dd (hide O H') → E cls dd H' } _ ⟨fun ρ' h σ' H' O' r' _ => ?_, fun d h v ρ' σ' H' O' r' a => ?_, fun _ z => z.elim, fun _ z => z.elim, fun x h ρ' σ' H' O' cls dd r' q => ?_, fun _ z => z.elim⟩ q
      · exact h .non H' (r'.back r.dom).1 .non
      · obtain ⟨b1, b2⟩ := r'.back r.dom
        exact h v H' b1 (a.ext b2)
      · obtain ⟨b1, b2⟩ := r'.back r.dom
        exact h H' cls dd b1 (exR_ext b2 q)
end
section
variable {T : Tb} {X : Cx} {W : WX} {pos p pos' apos : Pos} {e a b o : Expr} {es : List Expr} {st : Stmt} {rest : List Stmt} {K : PySem.W.Frag} {G G2 : Gh} {ρ ρ2 : En} {σ σ2 : L2.St} {H H' : Hp} {D : Ends}
/-- o.m(e, ..), what is raised wished for at the slots -/
theorem pe_methSD {pl : Sem Bool} {C : Addr} {CX : CXT} {k : Nat} {f : Addr} {fd : FuncData} {ps : List Str} {sp : Sp} {m : Str} {E : L2.St → XK} {ta : TE} {t : TA} (he : PE X o ta) (c : Cls X.K C) (hm : Meth X.K C m f) (F : FnOk X.prog X.w X.K X.mg X.base CX k f fd ps sp) (hr : Room k X.A) (hb : Binds X.K fd ps []) (hx : ∀ σ, PassesAt CX X σ (E σ)) (ha : PA X (e :: es) t)
    (hst : starEach (e :: es) X.env = (false, eval e X.env) :: starEach es X.env) (hpl : (backTo pos (starEach es X.env)).any (·.1) = false)
    (ht : eval (.Call (.Attribute o m apos) (e :: es) [] pos) X.env = (do
      let ov ← eval o X.env
      standAt apos.atName
      let q ← holding [ov] (getMethod ov m pl)
      callWith pos q.1 q.2 (backTo pos (starEach (e :: es) X.env)) (backToKw pos (keywordEach [] X.env)))) :
    PE X (.Call (.Attribute o m apos) (e :: es) [] pos) (fun σ H Q => ta σ H fun x H1 => ∃ a dx fs, x = .ref a ∧ H1 a = some (.ins C dx fs) ∧ fs.lookup m = none ∧ t σ H1 fun vs H2 => sp (x :: vs) H2 Q (E σ)) := by
  refine ⟨fun pins s σ H Q I h => PySem.W.methodCall_KW (pl := pl) (thn (he.run pins s σ H _ I h) fun u s1 ⟨x, H1, I1, rx, a, dx, fs, ex, ea, l, q⟩ => ?_) ht⟩
  subst ex
  obtain rfl : u = Value.ref a := rx
  refine getmeth_ok I1 ea c hm l (PySem.W.callWith_K (first := [.ref a]) (h₀ := X.base) I.ok.mod.kin hm.kp (thn (ha.run pos pins s1 σ H1 _ I1 q) fun us s2 ⟨vs, H2, I2, r, q2⟩ => ⟨I2.kIn, ?_⟩) hst hpl)
  exact run_fnSD (us := .ref a :: us) (vs := .ref a :: vs) F hr hb .nil (hx σ) I2 (.cons rfl r) (by rw [List.append_nil]; exact q2)
end
end PL
set_option Elab.async false
set_option linter.all false
set_option maxRecDepth 100000
set_option maxHeartbeats 2000000
namespace PL
open PySem PySem.Spec PyProof.Rows L2
open LamX (ExtN Tabs TabS)
def rgM : PyData := .dict [(.bool true, .bool true)]
/-- the class of registers, what of it is used -/
structure RgC (K : PySem.W.Frag) (C : Addr) : Prop where
  ns : PySem.W.nsIn K mainGlobals "Register" = some (some (.ref C))
  cl : Cls K C
  n1 : NoAttr K C "rooms"
  n2 : NoAttr K C "things"
  n3 : NoAttr K C "deeds"
  n4 : NoAttr K C "undone"
section
variable {T : Tb} {X : Cx} {W : WX} {pos p p2 p3 p4 p5 p6 p7 p8 p9 p10 p11 p12 pos' apos : Pos} {e a b o : Expr} {es : List Expr} {st : Stmt} {rest : List Stmt} {K : PySem.W.Frag} {G G2 : Gh} {ρ ρ2 : En} {σ σ2 : L2.St} {H H' : Hp} {D : Ends}
theorem rg_inv {v : V} {C : Addr} (R : RgC K C) (h : Da K H v rgM) : ∃ b dx r t d u, v = .ref b ∧ H b = some (.ins C dx (rgF r t d u)) ∧ H t = some (.dT []) := by
  unfold rgM at h
  generalize hd : PyData.dict [(.bool true, .bool true)] = d at h
  have kd : ∀ k : Key, keyD k ≠ .bool true := fun k e => by cases k <;> cases e
  cases h with
  | dk h1 h2 =>
    rename_i a kvs ds
    injection hd with hd
    cases kvs with
    | nil => cases hd
    | cons q r => cases ds with
      | nil => cases hd
      | cons y t => exact absurd (Prod.mk.inj (List.cons.inj hd).1).1.symm (kd _)
  | dt h1 h2 h3 =>
    rename_i a kvs ds
    injection hd with hd
    cases kvs with
    | nil => cases hd
    | cons q r => cases ds with
      | nil => cases hd
      | cons y t => exact absurd (Prod.mk.inj (List.cons.inj hd).1).1 (fun z => by cases z)
  | dte h1 => cases hd
  | ob h1 =>
    cases hd
    obtain ⟨b, dx, C', r, t, d, u, h2, h3, h4, h5⟩ := h1
    rw [R.ns] at h3
    cases h3
    exact ⟨b, dx, r, t, d, u, h2, h4, h5⟩
  | _ => cases hd
/-- x not in self.things: nothing stands there -/
def wThings (i : Nat) (wk : PW) : PWB := fun ρ Q E => ρ[i]? = some (.sh rgM) ∧ wk ρ (fun d => ∃ key, keyTn d = some key ∧ Q true) E
theorem dt_things {i k : Nat} {C : Addr} {wk : PW} (R : RgC X.K C) (hr : Room k X.A) (ho : PE X o (tVar i)) (hb : attributeBase o "things" X.env (eval o X.env) = eval o X.env) (hk : DE T X W a wk) (hm : behindInMarks .NotIn (.Attribute o "things" p2) = false) : DT T X W (.Compare a [.NotIn] [.Attribute o "things" p2] pos) (wThings i wk) :=
  ⟨pt_mono (pt_cmp (pc_dnotin (hu_of hr) hk.pe (pe_fld ho hb)) hm) fun σ H Q q => by
    obtain ⟨G, ρ, r, hd, q⟩ := q
    refine lift_intro hk.mono r (hk.mono _ _ _ _ _ (fun d hd' y H1 r1 e1 a1 => ?_) (fun _ z => z) q)
    obtain ⟨key, hkey, hQ⟩ := hd'
    obtain ⟨v, h1, x, ex, h2⟩ := r1.slot i _ hd
    subst ex
    obtain ⟨b, dx, r', t, d', u, rfl, h4, h5⟩ := rg_inv R h2
    obtain ⟨kb, rfl, h6⟩ := keyT_da a1 hkey
    refine ⟨_, h1, b, C, dx, _, .ref t, rfl, (hide_some h4).2, R.cl, R.n2, rfl, t, none, rfl, DGet.t (hide_some h5).2 (hide_some h6).2, ?_⟩
    exact ⟨true, rfl, hQ H1 r1⟩,
   fun ρ Q Q' E E' hq he q => ⟨q.1, hk.mono _ _ _ _ _ (fun d ⟨key, h1, h2⟩ => ⟨key, h1, hq _ h2⟩) he q.2⟩⟩
theorem dt_off : DT T X W e (fun _ _ _ => False) := ⟨⟨fun pins s σ H Q I h => by obtain ⟨_, _, _, z⟩ := h; exact z.elim⟩, fun _ _ _ _ _ _ _ z => z⟩
theorem dss_off {sts : List Stmt} : DSs T X W sts (fun _ _ => False) := ⟨⟨fun pins s σ H Q I h => by obtain ⟨_, _, _, _, z⟩ := h; exact z.elim⟩, fun _ _ _ _ z => z⟩
/-- self.m(..), self a register -/
def wMeth (n i : Nat) (c : PW) (ws : PWp) : PW := fun ρ Q E => ρ[i]? = some (.sh rgM) ∧ ws ρ (fun ss => ss.length + 1 = n ∧ c (.sh rgM :: ss) Q E) E
theorem de_meth {pl : Sem Bool} {C : Addr} {k n i : Nat} {f : Addr} {fd : FuncData} {ps : List Str} {c : PW} {ws : PWp} {m : Str} (R : RgC X.K C) (hm : Meth X.K C m f) (hl : ∀ r t d u, (rgF r t d u).lookup m = none) (F : FnOk X.prog X.w X.K X.mg X.base (L2.CX X.prog X.w) k f fd ps (spD T X.K n c)) (mc : Mono c) (hr : Room k X.A)
    (hb : Binds X.K fd ps []) (tk : Takes X W) (ho : PE X o (tVar i)) (h : DP T X W (e :: es) ws) (hst : starEach (e :: es) X.env = (false, eval e X.env) :: starEach es X.env) (hpl : (backTo pos (starEach es X.env)).any (·.1) = false)
    (ht : eval (.Call (.Attribute o m apos) (e :: es) [] pos) X.env = (do
      let ov ← eval o X.env
      standAt apos.atName
      let q ← holding [ov] (getMethod ov m pl)
      callWith pos q.1 q.2 (backTo pos (starEach (e :: es) X.env)) (backToKw pos (keywordEach [] X.env)))) : DE T X W (.Call (.Attribute o m apos) (e :: es) [] pos) (wMeth n i c ws) :=
  ⟨pe_mono (pe_methSD (E := WE W) ho R.cl hm F hr hb (fun σ => passAt tk σ) h.pa hst hpl ht) fun σ H Q q => by
    obtain ⟨G, ρ, r, hd, q⟩ := q
    obtain ⟨v, h1, x, ex, h2⟩ := r.slot i _ hd
    subst ex
    obtain ⟨b, dx, r', t, d', u, rfl, h4, h5⟩ := rg_inv R h2
    refine ⟨_, h1, b, dx, _, rfl, (hide_some h4).2, hl _ _ _ _, ?_⟩
    refine ⟨⟨hide G.O H, G.O, G.fl⟩, ρ, r.rebase, h.mono _ _ _ _ _ (fun ss hss vs H1 r1 a1 => ?_) (fun x hx H' cls dd r' q => hx H' cls dd (r'.unbase r.ext) q) q⟩
    have r1' := r1.unbase r.ext
    obtain ⟨r2, no⟩ := args_rep r1' (.cons (s := .sh rgM) (show ArgOk T X.K (hide G.O H1) (.ref b) (.sh rgM) from h2.ext r1.ext) a1)
    exact ⟨G.O, .sh rgM :: ss, hss.1, r2, no, mc _ _ _ _ _ (fun d hd v H' bk a => hd v H' (r1'.forth bk) a) (fun x hx H' cls dd bk q => hx H' cls dd (r1'.forth bk) q) hss.2⟩,
   fun ρ Q Q' E E' hq he q => ⟨q.1, h.mono _ _ _ _ _ (fun ss hss => ⟨hss.1, mc _ _ _ _ _ hq he hss.2⟩) he q.2⟩⟩
def spRI (T : Tb) (C : Addr) : Sp := fun vs H Q _ => ∃ p dx l, vs = [.ref p, .ref l] ∧ H p = some (.ins C dx []) ∧ H l = some (.lst [.int 1]) ∧ TOk T H ∧
  ∀ H' r t d u, TOk T H' → (∀ b o, b ≠ p → H b = some o → (∀ ps, o ≠ .tbl ps) → H' b = some o) → H' p = some (.ins C dx (rgF r t d u)) → H' t = some (.dT []) → (∀ o, H t = some o → ∃ ps, o = .tbl ps) → Q .non H'
theorem de_newReg {C : Addr} {k : Nat} {f : Addr} {fd : FuncData} {ps : List Str} {x : Str} {j : Nat} (R : RgC X.K C) (M : Mk X.K C f) (F : FnOk X.prog X.w X.K X.mg X.base (L2.CX X.prog X.w) k f fd ps (spRI T C)) (hr : Room (k + 1) X.A) (hg : Gl X x) (hm : X.mg x = some (.ref C)) (hb : Binds X.K fd ps []) (tk : Takes X W)
    (hdb : (x == ("__debug__" : Str)) = false := by decide) (he : starEach [.List [.Constant (.int 1) j p2] p3] X.env = (false, eval (.List [.Constant (.int 1) j p2] p3) X.env) :: starEach [] X.env := by rfl) :
    DE T X W (.Call (.Name x p) [.List [.Constant (.int 1) j p2] p3] [] pos) (fun _ Q _ => Q rgM) :=
  ⟨pe_mono (pe_make (CX := L2.CX X.prog X.w) (E := fun _ _ _ => False) (dvs := []) M F hr hg hm hb .nil (fun pins σ H s e s' I z => passes_call (E := fun _ _ _ => False) tk (fun _ _ _ _ z => z.elim) pins σ H s e s' I z) (pa_cons (pe_lst (pa_cons pe_int pa_nil (by rfl))) pa_nil he) hdb he (by rfl)) fun σ H Q q => by
    obtain ⟨G, ρ, r, q⟩ := q
    refine ⟨by show 1 ≤ sizeLine; decide, fun l hl x dx hx hdx ne => ⟨x, dx, l, rfl, upd_same, ?_, ?_, fun H' r' t d u tk' kp h1 h2 h3 => ⟨rfl, ?_⟩⟩⟩
    · rw [upd_ne (fun z => by rw [← z, upd_same] at hx; cases hx), upd_ne (fun z => by rw [← z, upd_same] at hdx; cases hdx), upd_same]
    · refine r.tab.keep fun b o e => ?_
      have e1 : upd H l (.lst [.int 1]) b = some o := by rw [upd_ne (ne_of_none e hl)]; exact e
      rw [upd_ne (ne_of_none e1 hx), upd_ne (ne_of_none e1 hdx)]
      exact e1
    · have all : ∀ b o, H b = some o → (∀ ps, o ≠ .tbl ps) → H' b = some o := fun b o e n => by
        have e1 : upd H l (.lst [.int 1]) b = some o := by rw [upd_ne (ne_of_none e hl)]; exact e
        refine kp b o (ne_of_none e1 hx) ?_ n
        rw [upd_ne (ne_of_none e1 hx), upd_ne (ne_of_none e1 hdx)]
        exact e1
      have out : ∀ b, upd H l (.lst [.int 1]) b = none → b ∉ G.O := fun b hb z => by
        obtain ⟨o, ho, _⟩ := r.dom b z
        rw [upd_ne (ne_of_none ho hl), ho] at hb
        cases hb
      have rr := r.step (H' := H') (ext_hide fun b o _ e n => all b o e n) (fun a ha => by obtain ⟨o, ho, n⟩ := r.dom a ha; rw [ho]; exact all a o ho n) tk'
      have ht : t ∉ G.O := fun z => by
        obtain ⟨o, ho, n⟩ := r.dom t z
        have e1 : upd H l (.lst [.int 1]) t = some o := by rw [upd_ne (ne_of_none ho hl)]; exact ho
        obtain ⟨ps, e⟩ := h3 o (by rw [upd_ne (ne_of_none e1 hx), upd_ne (ne_of_none e1 hdx)]; exact e1)
        exact n ps e
      exact q _ H' rr (.ob ⟨x, dx, C, r', t, d, u, rfl, R.ns, by rw [hide_out (out x hx)]; exact h1, by rw [hide_out ht]; exact h2⟩), fun ρ Q Q' E E' hq he q => hq _ q⟩
end
end PL
set_option Elab.async false
set_option linter.all false
set_option maxRecDepth 100000
set_option maxHeartbeats 2000000
namespace PL
open PySem PySem.Spec PyProof.Rows L2
open LamX (ExtN Tabs TabS)
section
variable {T : Tb} {K : PySem.W.Frag} {H : Hp}
theorem rg_fields (r t d u : Addr) : putF "undone" (.ref u) (putF "deeds" (.ref d) (putF "things" (.ref t) (putF "rooms" (.ref r) []))) = rgF r t d u := rfl
theorem TOk.ins {p C dx : Addr} {fs fs' : List (Str × V)} (t : TOk T H) (h : H p = some (.ins C dx fs)) : TOk T (L2.upd H p (.ins C dx fs')) := t.put h (fun ps z => by cases z) (fun oc z => by cases z) fun q z => by unfold LamX.CodeO at z; cases z
theorem TOk.new {q : Addr} {o : HO} (t : TOk T H) (h : H q = none) : TOk T (L2.upd H q o) := t.keep fun b u e => by rw [upd_ne (ne_of_none e h)]; exact e
theorem ri_rep {p l C dx : Addr} (hp : H p = some (.ins C dx [])) (hl : H l = some (.lst [.int 1])) (t : TOk T H) : Rep { T with dc := [] } K ⟨H, [], []⟩ [.sh (mk p), .sh (.list [.int 1]), .un] [some (.ref p), some (.ref l), none] H := by
  refine ⟨rfl, fun i s hs => ?_, fun i j s t a hij hi hj hs ht => ?_, ⟨t.g, t.l, t.n, t.c, t.k⟩, fun b o e _ => by rw [hide_nil]; exact e, (fun a h => by cases h), (fun a h => by cases h), fun a h => by cases h⟩
  · match i with
    | 0 => cases hs; exact ⟨_, rfl, _, rfl, .ob ⟨p, rfl, rfl⟩⟩
    | 1 => cases hs; exact ⟨_, rfl, _, rfl, .lst (by rw [hide_nil]; exact hl) (.cons (.int 1) .nil)⟩
    | 2 => cases hs; exact ⟨_, rfl, trivial⟩
    | n + 3 => simp at hs
  · match i with
    | 0 => cases hi; cases hs
    | 1 => cases hi; cases hs
    | 2 => cases hi; cases hs
    | n + 3 => simp at hi
theorem ok_ri {w : World} {P : Program} {mg : Str → Option Value} {base : Heap} {x y : Str} {st s1 : Stmt} {f c C : Addr} {fd : FuncData} {N : List Str} {k : Nat} {u1 : SW} {p1 p2 p3 p4 p5 p6 p7 p8 p9 p10 p11 p12 p13 p14 p15 p16 p17 p18 : Pos} (F : FunM K x y st f c fd) (S : FnScope N ["self", "rooms"] (defScope st)) (hN : N = [("self" : Str), "rooms", "room"]) (R : RgC K C)
    (htx : defBody st = [s1, .Assign [.Attribute (.Name "self" p1) "rooms" p2] (.Call (.Name "tuple" p3) [.Name "rooms" p4] [] p5) p6, .Assign [.Attribute (.Name "self" p7) "things" p8] (.Dict [] [] p9) p10, .Assign [.Attribute (.Name "self" p11) "deeds" p12] (.List [] p13) p14, .Assign [.Attribute (.Name "self" p15) "undone" p16] (.List [] p17) p18])
    (hs : (defScope st).names.lookup ("self" : Str) = some .local) (hs2 : (defScope st).names.lookup ("rooms" : Str) = some .local) (hgt : (defScope st).names.lookup ("tuple" : Str) = some .globalImplicit) (hmt : mg "tuple" = none)
    (h1 : ∀ (A : Around) (outer : List Env) (s : Shared) (H : Hp) (E : XK), Room k (A.deeper (envOfC y (defScope st) s.heap.objs.size f (.ref c))) → DS { T with dc := [] } (cxOf (L2.CX P w) P w K mg base N y (defScope st) f (.ref c) A outer s H E) (fun cls d _ H => E cls d H) s1 u1)
    (hu : ∀ p D, D.nx [.sh (mk p), .sh (.list [.int 1]), .un] → u1 [.sh (mk p), .sh (.list [.int 1]), .un] D)
    (hw : ∀ (A : Around) (outer : List Env) (s : Shared) (H : Hp) (E : XK), swapsWith (.Call (.Name "tuple" p3) [.Name "rooms" p4] [] p5) (some (.Attribute (.Name "self" p1) "rooms" p2)) p6.line (cxOf (L2.CX P w) P w K mg base N y (defScope st) f (.ref c) A outer s H E).env = pure false)
    (hw2 : ∀ (A : Around) (outer : List Env) (s : Shared) (H : Hp) (E : XK), swapsWith (.Dict [] [] p9) (some (.Attribute (.Name "self" p7) "things" p8)) p10.line (cxOf (L2.CX P w) P w K mg base N y (defScope st) f (.ref c) A outer s H E).env = pure false)
    (hw3 : ∀ (A : Around) (outer : List Env) (s : Shared) (H : Hp) (E : XK), swapsWith (.List [] p13) (some (.Attribute (.Name "self" p11) "deeds" p12)) p14.line (cxOf (L2.CX P w) P w K mg base N y (defScope st) f (.ref c) A outer s H E).env = pure false)
    (hw4 : ∀ (A : Around) (outer : List Env) (s : Shared) (H : Hp) (E : XK), swapsWith (.List [] p17) (some (.Attribute (.Name "self" p15) "undone" p16)) p18.line (cxOf (L2.CX P w) P w K mg base N y (defScope st) f (.ref c) A outer s H E).env = pure false) :
    FnOk P w K mg base (L2.CX P w) (k + 1) f fd ["self", "rooms"] (spRI T C) := by
  subst hN
  refine F.okX S (fun vs H Q E h => ?_) (fun A outer s H vs Q E hr h => ?_)
  · obtain ⟨p, dx, l, rfl, _⟩ := h
    rfl
  · obtain ⟨p, dx, l, rfl, hp, hl, ht, q⟩ := h
    rw [htx]
    let X := cxOf (L2.CX P w) P w K mg base ["self", "rooms", "room"] y (defScope st) f (.ref c) A outer s H E
    have pv0 : ∀ {p : Pos}, PE X (.Name "self" p) (tVar 0) := fun {p} => pe_var (X := X) (i := 0) rfl (.inl hs)
    have pv1 : ∀ {p : Pos}, PE X (.Name "rooms" p) (tVar 1) := fun {p} => pe_var (X := X) (i := 1) rfl (.inl hs2)
    refine ⟨_, pss_cons (h1 A outer s H E hr).ps (pss_cons (ps_fld pv0 (pe_tupleOf (X := X) hgt hmt pv1) (hw A outer s H E)) (pss_cons (ps_fld pv0 pe_dnewT (hw2 A outer s H E)) (pss_cons (ps_fld pv0 (pe_lst pa_nil) (hw3 A outer s H E)) (pss_one (ps_fld pv0 (pe_lst pa_nil) (hw4 A outer s H E)))))), ?_⟩
    refine ⟨⟨H, [], []⟩, _, ri_rep (T := T) hp hl ht, fun q hq => (by cases hq), hu p _ fun σ' H' O' r fa => ?_⟩
    obtain ⟨v0, e0, y0, rfl, d0⟩ := r.slot 0 _ rfl
    have ey := mk_inv d0
    subst ey
    obtain ⟨v1, e1, y1, rfl, d1⟩ := r.slot 1 _ rfl
    obtain ⟨l', vs, rfl, hl'⟩ : ∃ l' vs, y1 = .ref l' ∧ H' l' = some (.lst vs) := by
      cases d1 with
      | lst h _ => exact ⟨_, _, rfl, (hide_some h).2⟩
    have hp' : H' p = some (.ins C dx []) := (hide_some (r.ext p _ hp fun ps z => by cases z)).2
    have t0 : TOk T H' := ⟨r.tab.g, r.tab.l, r.tab.n, r.tab.c, r.tab.k⟩
    have kp0 : ∀ b o, H b = some o → (∀ ps, o ≠ .tbl ps) → H' b = some o := fun b o e n => (hide_some (r.ext b o e n)).2
    refine ⟨_, e1, .inl ⟨l', vs, rfl, SqL.of hl', fun q1 n1 => ?_⟩⟩
    have np1 : p ≠ q1 := ne_of_none hp' n1
    refine ⟨_, e0, p, C, dx, [], rfl, by rw [upd_ne np1]; exact hp', R.cl, R.n1, by show 0 < 1000; decide, ?_⟩
    have a1 : upd (upd H' q1 (.tup vs)) p (.ins C dx (putF "rooms" (.ref q1) [])) p = some (.ins C dx (putF "rooms" (.ref q1) [])) := upd_same
    have t1 : TOk T (upd (upd H' q1 (.tup vs)) p (.ins C dx (putF "rooms" (.ref q1) []))) := (t0.new n1).ins (by rw [upd_ne np1]; exact hp')
    have k1 : ∀ b o, b ≠ p → H b = some o → (∀ ps, o ≠ .tbl ps) → upd (upd H' q1 (.tup vs)) p (.ins C dx (putF "rooms" (.ref q1) [])) b = some o := fun b o hb e n => by rw [upd_ne hb, upd_ne (ne_of_none (kp0 b o e n) n1)]; exact kp0 b o e n
    generalize upd (upd H' q1 (.tup vs)) p (.ins C dx (putF "rooms" (.ref q1) [])) = A1 at a1 t1 k1 ⊢
    intro q2 n2
    have np2 : p ≠ q2 := ne_of_none a1 n2
    refine ⟨_, e0, p, C, dx, _, rfl, by rw [upd_ne np2]; exact a1, R.cl, R.n2, by show 1 < 1000; decide, ?_⟩
    have a2 : upd (upd A1 q2 (.dT [])) p (.ins C dx (putF "things" (.ref q2) (putF "rooms" (.ref q1) []))) p = some (.ins C dx (putF "things" (.ref q2) (putF "rooms" (.ref q1) []))) := upd_same
    have b2 : upd (upd A1 q2 (.dT [])) p (.ins C dx (putF "things" (.ref q2) (putF "rooms" (.ref q1) []))) q2 = some (.dT []) := by rw [upd_ne (Ne.symm np2)]; exact upd_same
    have t2 : TOk T (upd (upd A1 q2 (.dT [])) p (.ins C dx (putF "things" (.ref q2) (putF "rooms" (.ref q1) [])))) := (t1.new n2).ins (by rw [upd_ne np2]; exact a1)
    have k2 : ∀ b o, b ≠ p → H b = some o → (∀ ps, o ≠ .tbl ps) → upd (upd A1 q2 (.dT [])) p (.ins C dx (putF "things" (.ref q2) (putF "rooms" (.ref q1) []))) b = some o := fun b o hb e n => by rw [upd_ne hb, upd_ne (ne_of_none (k1 b o hb e n) n2)]; exact k1 b o hb e n
    have f2 : ∀ o, H q2 = some o → ∃ ps, o = .tbl ps := fun o e => by
      cases o with
      | tbl ps => exact ⟨ps, rfl⟩
      | _ => have := k1 q2 _ (Ne.symm np2) e (fun ps z => by cases z); rw [n2] at this; cases this
    generalize upd (upd A1 q2 (.dT [])) p (.ins C dx (putF "things" (.ref q2) (putF "rooms" (.ref q1) []))) = A2 at a2 b2 t2 k2 ⊢
    refine ⟨Nat.zero_le _, fun q3 n3 => ?_⟩
    have np3 : p ≠ q3 := ne_of_none a2 n3
    refine ⟨_, e0, p, C, dx, _, rfl, by rw [upd_ne np3]; exact a2, R.cl, R.n3, by show 2 < 1000; decide, ?_⟩
    have a3 : upd (upd A2 q3 (.lst [])) p (.ins C dx (putF "deeds" (.ref q3) (putF "things" (.ref q2) (putF "rooms" (.ref q1) [])))) p = some (.ins C dx (putF "deeds" (.ref q3) (putF "things" (.ref q2) (putF "rooms" (.ref q1) [])))) := upd_same
    have b3 : upd (upd A2 q3 (.lst [])) p (.ins C dx (putF "deeds" (.ref q3) (putF "things" (.ref q2) (putF "rooms" (.ref q1) [])))) q2 = some (.dT []) := by rw [upd_ne (Ne.symm np2), upd_ne (ne_of_none b2 n3)]; exact b2
    have t3 : TOk T (upd (upd A2 q3 (.lst [])) p (.ins C dx (putF "deeds" (.ref q3) (putF "things" (.ref q2) (putF "rooms" (.ref q1) []))))) := (t2.new n3).ins (by rw [upd_ne np3]; exact a2)
    have k3 : ∀ b o, b ≠ p → H b = some o → (∀ ps, o ≠ .tbl ps) → upd (upd A2 q3 (.lst [])) p (.ins C dx (putF "deeds" (.ref q3) (putF "things" (.ref q2) (putF "rooms" (.ref q1) [])))) b = some o := fun b o hb e n => by rw [upd_ne hb, upd_ne (ne_of_none (k2 b o hb e n) n3)]; exact k2 b o hb e n
    generalize upd (upd A2 q3 (.lst [])) p (.ins C dx (putF "deeds" (.ref q3) (putF "things" (.ref q2) (putF "rooms" (.ref q1) [])))) = A3 at a3 b3 t3 k3 ⊢
    refine ⟨Nat.zero_le _, fun q4 n4 => ?_⟩
    have np4 : p ≠ q4 := ne_of_none a3 n4
    refine ⟨_, e0, p, C, dx, _, rfl, by rw [upd_ne np4]; exact a3, R.cl, R.n4, by show 3 < 1000; decide, ?_⟩
    refine q _ q1 q2 q3 q4 ((t3.new n4).ins (by rw [upd_ne np4]; exact a3)) (fun b o hb e n => ?_) ?_ ?_ f2
    · rw [upd_ne hb, upd_ne (ne_of_none (k3 b o hb e n) n4)]; exact k3 b o hb e n
    · rw [upd_same, rg_fields]
    · rw [upd_ne (Ne.symm np2), upd_ne (ne_of_none b3 n4)]; exact b3
end
end PL
set_option Elab.async false
set_option linter.all false
set_option maxRecDepth 100000
set_option maxHeartbeats 2000000
namespace PL
open PySem PySem.Spec PyProof.Rows L2 LamX
def lamD : Expr → LamD
  | .Lambda p b s _ => ⟨p, b, s⟩
  | e => ⟨⟨[], [], none, [], [], none, []⟩, e, { kind := .function, names := [], isGenerator := false, isCoroutine := false, more := [] }⟩
def lamP : Expr → Pos
  | .Lambda _ _ _ p => p
  | _ => ⟨0, 0, 0, 0⟩
def lamEs (st : Stmt) (i : Nat) : List Expr := match (lawBody st)[i]? with
  | some (.Assign _ (.List es _) _) => es
  | _ => []
inductive Bodies (T : Tb) (X : Cx) (k : Nat) : List LamD → List PW → Prop
  | nil : Bodies T X k [] []
  | cons {l : LamD} {w : PW} {ls : List LamD} {ws : List PW} : (∀ (A : Around) (outer : List Env) (s : Shared) (H : Hp) (E : XK) (f c' : Addr), Room k (A.deeper (lamEnv X l.scope s.heap.objs.size f c')) → DE T (lamCx X A outer s H E l.scope f c') (fun cls d _ H => E cls d H) l.body w) → Bodies T X k ls ws → Bodies T X k (l :: ls) (w :: ws)
section
variable {T : Tb} {X : Cx} {k : Nat}
theorem Bodies.mono (hr : Room (k + 2) X.A) : ∀ {ls : List LamD} {ws : List PW}, Bodies T X k ls ws → ∀ w ∈ ws, Mono w
  | _, _, .nil => fun w hw => by cases hw
  | _, _, .cons h r => fun w hw => by
    rcases List.mem_cons.mp hw with e | hw
    · rw [e]; exact (h X.A X.outer X.s_0 X.H_0 (fun _ _ _ => False) 0 0 ((hr.deeper (k := k + 1) _).mono (Nat.le_succ _))).mono
    · exact r.mono hr w hw
theorem Bodies.at : ∀ {ls : List LamD} {ws : List PW}, Bodies T X k ls ws → ∀ (j : Nat) (l : LamD) (w : PW), ls[j]? = some l → ws[j]? = some w →
    ∀ (A : Around) (outer : List Env) (s : Shared) (H : Hp) (E : XK) (f c' : Addr), Room k (A.deeper (lamEnv X l.scope s.heap.objs.size f c')) → DE T (lamCx X A outer s H E l.scope f c') (fun cls d _ H => E cls d H) l.body w
  | _, _, .nil, j, l, w, h, _ => by simp at h
  | _, _, .cons h r, 0, l, w, h1, h2 => by simp at h1 h2; subst h1 h2; exact h
  | _, _, .cons h r, j + 1, l, w, h1, h2 => r.at j l w (by simpa using h1) (by simpa using h2)
end
end PL
set_option Elab.async false
set_option linter.all false
set_option maxRecDepth 100000
set_option maxHeartbeats 2000000
namespace GxI
open PySem PySem.Spec PyProof.Rows L2
/-- the inner loop's state -/
def ISt (X1 : Cx) (S : List Addr) (a : Addr) (go : Obj) (fp fp1 : List Addr) (tO : Heap → Prop) (tn1 : Nat → Heap → Prop) (Gd1 : Nat → Hp → Prop) (σ : L2.St) (j : Nat) (s : Shared) : Prop :=
  ∃ H pl, pl.map (·.1) = S ∧ Inv X1 ((a, go) :: pl) σ H s ∧ tn1 j s.heap ∧ (∀ b ∈ fp1, H b = none) ∧ tO s.heap ∧ (∀ b ∈ fp, H b = none) ∧ Gd1 j H
end GxI
set_option Elab.async false
set_option linter.all false
set_option maxRecDepth 100000
set_option maxHeartbeats 2000000
namespace GxI
open PySem PySem.Spec PyProof.Rows L2
theorem ISt.kp {X1 : Cx} {S : List Addr} {a : Addr} {go : Obj} {fp fp1 : List Addr} {tO : Heap → Prop} {tn1 : Nat → Heap → Prop} {Gd1 : Nat → Hp → Prop} {σ : L2.St} {j : Nat} {s s' : Shared} (hpn : X1.pn = []) (ap : SApart X1 S a fp) (ap1 : ∀ b ∈ S, b ∉ fp1)
    (kO : ∀ h h', tO h → (∀ b ∈ fp, ∀ o, h.get? b = some o → h'.get? b = some o) → tO h') (k1 : ∀ i h h', tn1 i h → (∀ b ∈ fp1, ∀ o, h.get? b = some o → h'.get? b = some o) → tn1 i h') (h : ISt X1 S a go fp fp1 tO tn1 Gd1 σ j s) (k : Kp S s s') : ISt X1 S a go fp fp1 tO tn1 Gd1 σ j s' := by
  obtain ⟨H, pl, e, I, st1, n1, stO, nO, gd⟩ := h
  obtain ⟨pl', e', I'⟩ := inv_kp hpn ap e I k
  exact ⟨H, pl', e', I', k1 _ _ _ st1 fun b hb o q => k.keep b o (fun hs => ap1 b hs hb) q, n1, kO _ _ stO fun b hb o q => k.keep b o (fun hs => ap.fp b hs hb) q, nO, gd⟩
end GxI
set_option Elab.async false
set_option linter.all false
set_option maxRecDepth 100000
set_option maxHeartbeats 2000000
set_option Elab.async false
set_option linter.all false
set_option maxRecDepth 100000
set_option maxHeartbeats 2000000
set_option Elab.async false
set_option linter.all false
set_option maxRecDepth 100000
set_option maxHeartbeats 2000000
set_option Elab.async false
set_option linter.all false
set_option maxRecDepth 100000
set_option maxHeartbeats 2000000
namespace PL
open PySem PySem.Spec PyProof.Rows L2
open LamX (ExtN Tabs TabS)
end PL
set_option Elab.async false
set_option linter.all false
set_option maxRecDepth 100000
set_option maxHeartbeats 2000000
namespace EnB
open PySem PySem.Spec PyProof.Rows L2
theorem meets_new1 {v : Value} {o : Obj} {H : Heap → Prop} (B : Begins v o H) :
    Meets (Builtin.«enumerate.__new__» ⟨[.type "enumerate", v], []⟩) (fun _ R s => H s.heap ∧
      R (.ok (.ret (.ref (s.heap.push o).objs.size))) { s with heap := (s.heap.push o).push { cls := .type "enumerate", data := .fields #[.none, .bool false, .ref s.heap.objs.size, rawInt 0, .none, .none] } }) :=
  .of_wp fun prog w A R s h => by
    obtain ⟨hp, g, d, tk, os⟩ := s; obtain ⟨h1, h⟩ := h
    have hsub := sub_enumerate
    have q1 : ∀ {A' : Around} {E : Value → Shared → Prop} {Q : Value → Shared → Prop}, Q (.ref hp.objs.size) ⟨hp.push o, g, d, tk, os⟩ → wpAny (model prog w) A' (pyIter v) Q E ⟨hp, g, d, tk, os⟩ :=
      fun q => B.iter prog w _ _ ⟨hp, g, d, tk, os⟩ _ h1 q
    wp_walk using q1
    refine wpAny_stack_any fun st => wpAny_pure ?_
    split
    · rename_i c _ _ _ _ _
      cases (c == Value.type "enumerate")
      · wp_walk using q1
        exact ⟨_, rfl, h⟩
      · wp_walk using q1
        exact ⟨_, rfl, h⟩
    · wp_walk using q1
      exact ⟨_, rfl, h⟩
section
variable {prog : Program} {w : World} {A : Around} {E : Value → Shared → Prop} {s : Shared}
theorem enum_new1 {v : Value} {o : Obj} {H : Heap → Prop} {Q : Value → Shared → Prop} (B : Begins v o H) (h1 : H s.heap)
    (h : ∀ h', IsEnum h' (s.heap.objs.size + 1) s.heap.objs.size 0 .none → h'.get? s.heap.objs.size = some o → h'.objs.size = s.heap.objs.size + 2 →
      (∀ b o, s.heap.get? b = some o → h'.get? b = some o) → Q (.ref (s.heap.objs.size + 1)) { s with heap := h' }) :
    wpAny (model prog w) A (call (.type "enumerate") [v]) Q E s := by
  refine callType_new F.called_enumerate (by decide) (F.typeCall_enumerate_1 _) (F.newCall_enumerate_1 _) (fun obj => F.args_object_init_2 obj _) F.entry_enumerate_new
    (meets_new1 B) ⟨h1, ?_⟩
  have hz : (s.heap.push o).objs.size = s.heap.objs.size + 1 := Heap.size_push ..
  show _ ∧ _
  rw [hz]
  have he : IsEnum ((s.heap.push o).push { cls := .type "enumerate", data := .fields #[.none, .bool false, .ref s.heap.objs.size, rawInt 0, .none, .none] }) (s.heap.objs.size + 1) s.heap.objs.size 0 .none := by
    have := Heap.get?_push_size (s.heap.push o) (o := { cls := .type "enumerate", data := .fields #[.none, .bool false, .ref s.heap.objs.size, rawInt 0, .none, .none] }) rfl
    rw [hz] at this; exact this
  refine ⟨⟨_, he, rfl⟩, h _ he (Heap.get?_push_of_some _ (Heap.get?_push_size _ B.free)) (by rw [Heap.size_push, hz]) fun b o x => Heap.get?_push_of_some _ (Heap.get?_push_of_some _ x)⟩
end
theorem enum_end_gen {prog : Program} {w : World} {A : Around} {E : Value → Shared → Prop} {s : Shared} {e it : Addr} {i : Int} {old : Value} {Q : Option Value → Shared → Prop} (he : IsEnum s.heap e it i old)
    (hd : ∀ (Q' : Value → Shared → Prop) (E' : Value → Shared → Prop), (∀ h' e, Heap.ExtBut it s.heap h' → (∃ o, h'.get? e = some o ∧ o.cls = .type "StopIteration") → E' (.ref e) { s with heap := h' }) → wpAny (model prog w) A.in1 (Builtin.SmallTypes.nextOf (.ref it)) Q' E' s)
    (hQ : ∀ h', Heap.ExtBut it s.heap h' → Q none { s with heap := h' }) : wpAny (model prog w) A (pyNext (.ref e)) Q E s := by
  have hT : s.TypeIs (.ref e) "enumerate" := ⟨_, he, rfl⟩
  unfold pyNext
  refine wpAny_bind (wpAny_attempt (wpAny_callSpecial?_slot (name := Str.ofString "__next__") hT F.slot_enumerate_next
    (wpAny_call_entry F.slot_enumerate_next hT F.entry_enumerate_next ?_ (F.args_enumerate_next_1 _))))
  show wpAny _ _ (field (.ref e) 2 >>= _) _ _ _
  refine wpAny_bind (wpAny_field he rfl (x := .ref it) rfl ?_)
  refine wpAny_bind (hd _ _ fun h' x he' hx' => ?_)
  obtain ⟨o, ho, hc⟩ := hx'
  refine wpAny_bind (wpAny_isInstance (T := "StopIteration") (b := true) ⟨o, ho, hc⟩ isSubtype_stop ?_)
  exact wpAny_pure (hQ _ he')
/-- the text x, each sign in a new pair -/
def ItEs (x : Str) : It :=
  ⟨fun i _ => i < x.cps.size, fun i H v H' => ∃ T c, v = .ref T ∧ H T = none ∧ H' = upd H T (.tup [.int (i : Nat), .str ⟨#[c]⟩]) ∧ x.cps[i]? = some c, fun i _ => x.cps.size ≤ i⟩
theorem turn_enumS {P : Program} {w : World} {K : PySem.W.Frag} {elts : List Expr} {kk : Nat} {tpos : Pos} (x : Str) (t : Tok) (e it : Addr) :
    Turn P w K (.Tuple elts kk tpos) (ItEs x) [e, it] e (fun i h => (∃ old, IsEnum h e it ((i : Nat) : Int) old) ∧ h.IsStrIter it (strIterType x) x t i ∧ e ≠ it) where
  mem := by simp
  obj := fun i h st b hb => by
    obtain ⟨⟨old, he⟩, ⟨o, ho, hc, hd⟩, _⟩ := st
    have e' : b = e ∨ b = it := by simpa using hb
    rcases e' with z | z
    · rw [z]; exact ⟨_, he, fun v q => nomatch q⟩
    · rw [z]; exact ⟨o, ho, fun v q => by rw [hd] at q; cases q⟩
  keep := fun i h h' st k => let ⟨⟨old, he⟩, ⟨o, ho, r⟩, hne⟩ := st; ⟨⟨old, k e (by simp) _ he⟩, ⟨o, k it (by simp) o ho, r⟩, hne⟩
  item := by
    intro X hP hw hK hc i pins s σ H E I hf st hg
    subst hP hw hK
    obtain ⟨⟨old, he⟩, hit, hne⟩ := st
    have hel : e < s.heap.objs.size := Heap.lt_size he
    have hil : it < s.heap.objs.size := by obtain ⟨_, q, _⟩ := hit; exact Heap.lt_size q
    refine wpAny_pyNext_enum_itemC (D := Draws.text (A := X.A.in1) (I.ok.hd hc) it x t) he hit hg hne (by simp [hne]) fun x' h' tk hP ho hst' hTn hsz hk => ?_
    obtain ⟨c, uu, hcx, rfl⟩ := hP
    refine ⟨_, rfl, wpAny_letOwnedTupleGo_enum (s := { s with heap := h', toks := tk + 1 }) ho fun h'' he' sb => ?_⟩
    have hT2 : h''.get? s.heap.objs.size = some { cls := .type "tuple", data := .seq #[.int i tk, .str ⟨#[c]⟩ uu] } := (sb.2 _ (Nat.ne_of_gt hel)).trans hTn
    have new : ObjOk X.prog X.w (upd H s.heap.objs.size (.tup [.int (i : Nat), .str ⟨#[c]⟩])) h'' s.heap.objs.size (.tup [.int (i : Nat), .str ⟨#[c]⟩]) :=
      ⟨by show 2 ≤ sizeLine; decide, [.int i tk, .str ⟨#[c]⟩ uu], .cons ⟨_, rfl⟩ (.cons ⟨_, rfl⟩ .nil), ⟨_, hT2, rfl, _, rfl⟩⟩
    have I1 : Inv X pins σ (upd H s.heap.objs.size (.tup [.int (i : Nat), .str ⟨#[c]⟩])) { s with heap := h'', toks := tk + 1 } :=
      I.turnedNew (ch := [e, it]) (fun b ob hb q => (sb.2 b (fun z => hb (by simp [z]))).trans (hk b ob (fun z => hb (by simp [z])) (fun z => hb (by simp [z])) q)) hf (Nat.le_refl _) new
    refine ⟨.ref s.heap.objs.size, _, I1, rfl, ⟨_, c, rfl, I.hok.fresh (Nat.le_refl _), rfl, hcx⟩, ⟨⟨.str ⟨#[c]⟩ uu, ?_⟩, ?_, hne⟩, fun b hb => ?_⟩
    · have e1 : ((i + 1 : Nat) : Int) = (i : Int) + 1 := by omega
      rw [e1]; exact he'
    · obtain ⟨o, ho, r⟩ := hst'
      exact ⟨o, (sb.2 it (Ne.symm hne)).trans ho, r⟩
    · have hb' : b < s.heap.objs.size := by
        have e' : b = e ∨ b = it := by simpa using hb
        rcases e' with z | z
        · rw [z]; exact hel
        · rw [z]; exact hil
      rw [upd_ne (Nat.ne_of_lt hb')]
      exact (hf b hb).1
  done := by
    intro X hP hw hK hc i pins s σ H E I hf st hg
    subst hP hw hK
    obtain ⟨⟨old, he⟩, hit, hne⟩ := st
    obtain ⟨f0, f1, f2, f3, f4, f5⟩ := hf it (by simp)
    have hx : x.cps[i]? = none := Array.getElem?_eq_none hg
    refine enum_end_gen he (fun Q E hE => ?_) fun h' eb => ⟨rfl, I.turned (t' := s.toks) (fun b o hb q => eb b o hb q) f0 f1 f3 f4 f5⟩
    cases ha : x.cps.all (· < 128)
    · simp only [strIterType, ha, Bool.false_eq_true, if_false] at hit
      exact wpAny_nextOf_wide_end (A := X.A.in1) (I.ok.hd hc) hit hx hE
    · simp only [strIterType, ha, if_true] at hit
      exact wpAny_nextOf_ascii_end (A := X.A.in1) (I.ok.hd hc) hit hx hE
  self := fun A i s Q E st h => let ⟨⟨_, he⟩, _⟩ := st; wpAny_pyIter_enum he h
section
variable {X : Cx} {e : Expr} {ta : TA} {p pos tpos : Pos} {elts : List Expr} {kk : Nat}
def iEnS (ta : TA) : TI := fun σ H R => ta σ H fun vs H1 => ∃ x, vs = [.str x] ∧ R (ItEs x) H1
theorem pi_enumS (hg : Gl X "enumerate") (hm : X.mg "enumerate" = none) (ha : PA X [e] ta) (hs : starEach [e] X.env = [(false, eval e X.env)] := by rfl) :
    PI X (.Tuple elts kk tpos) (.Call (.Name "enumerate" p) [e] [] pos) (iEnS ta) := by
  refine ⟨fun pins s σ H R I h => ?_⟩
  refine Call_ (ld_blt I hg hm boot_enumerate (PyProof.Rows.callWith_type1 (thn (ha.run pos pins s σ H _ I h) fun us s1 ⟨vs, H1, I1, r1, q1⟩ => ?_) hs rfl))
  obtain ⟨x, ex, q⟩ := q1
  subst ex
  cases r1 with
  | cons r rr =>
    cases rr
    obtain ⟨t, rfl⟩ := r
    refine enum_new1 (begins_text x t) trivial fun h' he hit hsz hk => wpAny_pyIter_enum he ?_
    have I2 : Inv X pins σ H1 { s1 with heap := h' } := I1.kept (t' := s1.toks) hk
    refine ⟨s1.heap.objs.size + 1, [s1.heap.objs.size + 1, s1.heap.objs.size], _, _, H1, rfl, I2, turn_enumS x t (s1.heap.objs.size + 1) s1.heap.objs.size, ⟨⟨.none, he⟩, ⟨_, hit, rfl, rfl⟩, Nat.succ_ne_self _⟩, fun b hb => ?_, q⟩
    have e' : b = s1.heap.objs.size + 1 ∨ b = s1.heap.objs.size := by simpa using hb
    have hle : s1.heap.objs.size ≤ b := by
      rcases e' with z | z
      · rw [z]; exact Nat.le_add_right _ _
      · rw [z]; exact Nat.le_refl _
    exact I1.fpOk hle (I1.hok.fresh hle)
end
end EnB
namespace PL
open PySem PySem.Spec PyProof.Rows L2 EnB
open LamX (ExtN Tabs TabS)
section
variable {T : Tb} {X : Cx} {W : WX} {pos p apos cpos : Pos} {e a b c : Expr} {K : PySem.W.Frag} {G : Gh} {ρ ρ2 : En} {σ σ2 : L2.St} {H H' : Hp}
theorem wk_enumS {x : Str} {B : Hp} : WkJ K B (ItEs x) (enumD (signsD x)) := fun O H e dm => by
  refine ⟨fun i d hd => ?_, fun i hi => ?_⟩
  · obtain ⟨d', h1, rfl⟩ := enumD_get hd
    rw [signsD, List.getElem?_map] at h1
    cases hc : x.cps.toList[i]? with
    | none => rw [hc] at h1; cases h1
    | some ch =>
      rw [hc] at h1
      cases h1
      have hi : i < x.cps.size := by
        have := (List.getElem?_eq_some_iff.mp hc).1
        rwa [Array.length_toList] at this
      refine ⟨hi, fun y H3 hy => ?_⟩
      obtain ⟨t, c', rfl, nt, rfl, hz⟩ := hy
      have : c' = ch := by
        rw [Array.getElem?_toList] at hc
        rw [hc] at hz
        exact (Option.some.inj hz).symm
      subst this
      refine ⟨fun b o hb => by rw [upd_ne (ne_of_none hb nt)]; exact hb, ?_⟩
      have nO : t ∉ O := fun z => dm t z nt
      exact .tup (by rw [hide_out nO, upd_same]) (.cons (.int _) (.cons (.str _) .nil))
  · rw [enumD_length, signsD, List.length_map, Array.length_toList] at hi
    exact hi
def wItES (w : PW) : PWs := fun ρ Q E => w ρ (fun d => match d with | .str x => Q (enumD (signsD x)) | _ => False) E
theorem di_enumS {elts : List Expr} {kk : Nat} {tpos : Pos} {w : PW} (hg : Gl X "enumerate") (hm : X.mg "enumerate" = none) (h : DE T X W e w) (hs : starEach [e] X.env = [(false, eval e X.env)] := by rfl)
    (hs2 : starEach [e] X.env = (false, eval e X.env) :: starEach [] X.env := by rfl) : DI T X W (.Tuple elts kk tpos) (.Call (.Name "enumerate" p) [e] [] pos) (wItES w) := ⟨pi_mono (pi_enumS hg hm (pa_cons h.pe pa_nil hs2) hs) fun σ H R q => by
    obtain ⟨G, ρ, r, q⟩ := q
    refine ⟨G, ρ, r, h.mono _ _ _ _ _ (fun d hd v H' r' a => ?_) (fun _ z => z) q⟩
    cases a with
    | str x => exact ⟨_, rfl, hd _ H' r' wk_enumS⟩
    | _ => exact hd.elim, fun ρ Q Q' E E' hq he q => h.mono _ _ _ _ _ (fun d hd => by cases d <;> first | exact hq _ hd | exact hd) he q⟩
end
end PL
set_option Elab.async false
set_option linter.all false
set_option maxRecDepth 100000
set_option maxHeartbeats 1000000
namespace U
open PySem PySem.Spec PyProof.Rows L2 PL
open PySem.W (Datum DatumOrd Tup)
theorem le_size {n : Nat} (h : n ≤ 100000) : n ≤ sizeLine := by rw [sizeLine_eq]; omega
theorem lt_size {n : Nat} (h : n ≤ 100000) : n < sizeLine := by rw [sizeLine_eq]; omega
theorem pl_int (i : Int) : Pl (.int i) := ⟨rfl, Nat.zero_le _⟩
theorem pl_str (x : Str) : Pl (.str x) := ⟨rfl, Nat.zero_le _⟩
theorem pl_bool (x : Bool) : Pl (.bool x) := ⟨rfl, Nat.zero_le _⟩
theorem pl_none : Pl .none := ⟨rfl, Nat.zero_le _⟩
theorem PlD {α : Type} [DecidableEq α] [Datum α] (x : α) (h : Datum.depth α ≤ 30 := by decide) : Pl (Datum.toD x) := ⟨Datum.plain x, Nat.le_trans (Datum.depth_le x) h⟩
theorem eqv_int (i j : Int) : PyData.eqv (.int i) (.int j) = decide (i = j) := Datum.eqv i j
theorem eqv_str (i j : Str) : PyData.eqv (.str i) (.str j) = decide (i = j) := Datum.eqv i j
theorem br {b : Bool} {A B : Prop} (h1 : b = true → A) (h2 : b = false → B) : if b = true then A else B := by
  cases b
  · rw [if_neg (by decide)]; exact h2 rfl
  · rw [if_pos rfl]; exact h1 rfl
theorem brD {p : Prop} [Decidable p] {A B : Prop} (h1 : p → A) (h2 : ¬ p → B) : if decide p = true then A else B := br (fun e => h1 (of_decide_eq_true e)) (fun e => h2 (of_decide_eq_false e))
theorem yes {b : Bool} {A B : Prop} (e : b = true) (h : A) : if b = true then A else B := by rw [if_pos e]; exact h
theorem no {b : Bool} {A B : Prop} (e : b = false) (h : B) : if b = true then A else B := by rw [e, if_neg (by decide)]; exact h
theorem yesD {p : Prop} [Decidable p] {A B : Prop} (e : p) (h : A) : if decide p = true then A else B := yes (decide_eq_true e) h
theorem brNe {α : Type} [DecidableEq α] [Datum α] (x y : α) {A B : Prop} (h1 : x ≠ y → A) (h2 : x = y → B) : if (if true = true then !PyData.eqv (Datum.toD x) (Datum.toD y) else PyData.eqv (Datum.toD x) (Datum.toD y)) = true then A else B := by
  refine br (fun e => h1 fun h => ?_) (fun e => h2 ?_)
  · rw [if_pos rfl, Datum.eqv, decide_eq_true h] at e; cases e
  · rw [if_pos rfl, Datum.eqv, Bool.not_eq_false', decide_eq_true_eq] at e; exact e
theorem goFor_by {g : GD} {b : SW} {D : PEn} {ds : List PyData} (Inv : Nat → En → Prop)
    (hs : ∀ i d ρ (N : En → Prop), (∀ ρ', Inv (i + 1) ρ' → N ρ') → ds[i]? = some d → Inv i ρ → g d ρ fun ρ2 => b ρ2 { D with nx := N, ct := N, bk := D.nx }) (hd : ∀ ρ, Inv ds.length ρ → D.nx ρ) : ∀ ρ, Inv 0 ρ → goFor g b D ds ρ := by
  have key : ∀ (k i : Nat) (ρ : En), i + k = ds.length → Inv i ρ → goFor g b D (ds.drop i) ρ := by
    intro k
    induction k with
    | zero =>
      intro i ρ e h
      rw [List.drop_eq_nil_of_le (by omega)]
      have : i = ds.length := by omega
      subst this
      exact hd ρ h
    | succ k ih =>
      intro i ρ e h
      rw [List.drop_eq_getElem_cons (by omega : i < ds.length)]
      exact hs i _ ρ _ (fun ρ' h' => ih (i + 1) ρ' (by omega) h') (List.getElem?_eq_getElem (by omega)) h
  intro ρ h
  have := key ds.length 0 ρ (by omega) h
  rwa [List.drop_zero] at this
/-- over items that are known -/
theorem for_list {α : Type} {enc : α → PyData} {g : GD} {b : SW} {D : PEn} (xs : List α) (Inv : Nat → En → Prop)
    (hs : ∀ i x ρ (N : En → Prop), (∀ ρ', Inv (i + 1) ρ' → N ρ') → xs[i]? = some x → i < xs.length → Inv i ρ → g (enc x) ρ fun ρ2 => b ρ2 { D with nx := N, ct := N, bk := D.nx }) (hd : ∀ ρ, Inv xs.length ρ → D.nx ρ) (ρ : En) (h : Inv 0 ρ) : goFor g b D (xs.map enc) ρ := by
  refine goFor_by Inv (fun i d ρ N hN hd hI => ?_) (fun ρ hI => hd ρ (by rwa [List.length_map] at hI)) ρ h
  rw [List.getElem?_map] at hd
  cases e : xs[i]? with
  | none => rw [e] at hd; cases hd
  | some x =>
    rw [e] at hd
    cases hd
    exact hs i x ρ N hN e (List.getElem?_eq_some_iff.mp e).1 hI
theorem for_range {g : GD} {b : SW} {D : PEn} (lo : Int) (n : Nat) (Inv : Nat → En → Prop)
    (hs : ∀ i ρ (N : En → Prop), (∀ ρ', Inv (i + 1) ρ' → N ρ') → i < n → Inv i ρ → g (.int (lo + (i : Nat))) ρ fun ρ2 => b ρ2 { D with nx := N, ct := N, bk := D.nx }) (hd : ∀ ρ, Inv n ρ → D.nx ρ) (ρ : En) (h : Inv 0 ρ) : goFor g b D (rangeD lo n) ρ := by
  unfold rangeD
  refine for_list (List.range n) Inv (fun i x ρ N hN hx hi hI => ?_) (fun ρ hI => hd ρ (by rwa [List.length_range] at hI)) ρ h
  rw [List.length_range] at hi
  rw [List.getElem?_range hi] at hx
  cases hx
  exact hs i ρ N hN hi hI
theorem enumD_map {α : Type} (enc : α → PyData) (xs : List α) : enumD (xs.map enc) = xs.zipIdx.map fun p => .tuple [.int (p.2 : Nat), enc p.1] := by
  unfold enumD
  rw [List.zipIdx_map, List.map_map]
  rfl
theorem for_enum {α : Type} {enc : α → PyData} {g : GD} {b : SW} {D : PEn} (xs : List α) (Inv : Nat → En → Prop)
    (hs : ∀ i x ρ (N : En → Prop), (∀ ρ', Inv (i + 1) ρ' → N ρ') → xs[i]? = some x → i < xs.length → Inv i ρ → g (.tuple [.int (i : Nat), enc x]) ρ fun ρ2 => b ρ2 { D with nx := N, ct := N, bk := D.nx }) (hd : ∀ ρ, Inv xs.length ρ → D.nx ρ) (ρ : En) (h : Inv 0 ρ) : goFor g b D (enumD (xs.map enc)) ρ := by
  rw [enumD_map]
  refine for_list xs.zipIdx Inv (fun i p ρ N hN hx hi hI => ?_) (fun ρ hI => hd ρ (by rwa [List.length_zipIdx] at hI)) ρ h
  rw [List.getElem?_zipIdx] at hx
  cases e : xs[i]? with
  | none => rw [e] at hx; cases hx
  | some x =>
    rw [e] at hx
    simp only [Option.map_some, Option.some.injEq, Nat.zero_add] at hx
    subst hx
    exact hs i x ρ N hN e (List.getElem?_eq_some_iff.mp e).1 hI
theorem lc_go {α β : Type} {enc : β → PyData} {enco : α → PyData} {g : GD} {wt : PWB} {we : PW} {ρ : En} {Q : List PyData → Prop} (f : β → Option α) : ∀ (xs : List β) (acc : List α),
    (∀ x ∈ xs, ∀ (Y : PyData → Prop) (N : Prop), (∀ y, f x = some y → Y (enco y)) → (f x = none → N) → g (enc x) ρ fun ρ2 => wt ρ2 (fun k => if k = true then we ρ2 Y (fun _ => False) else N) (fun _ => False)) →
    acc.length + xs.length ≤ 100000 → Q ((acc ++ xs.filterMap f).map enco) → goLc g wt we ρ (xs.map enc) (acc.map enco) Q
  | [], acc, h, hl, hQ => by
    rw [List.filterMap_nil, List.append_nil] at hQ
    exact hQ
  | x :: xs, acc, h, hl, hQ => by
    rw [List.length_cons] at hl
    refine h x List.mem_cons_self (fun y => _ ∧ _) _ (fun y hy => ?_) (fun hn => ?_)
    · refine ⟨lt_size (by rw [List.length_map]; omega), ?_⟩
      have := lc_go (enc := enc) (enco := enco) (g := g) (wt := wt) (we := we) (ρ := ρ) (Q := Q) f xs (acc ++ [y]) (fun z hz => h z (List.mem_cons_of_mem _ hz)) (by rw [List.length_append, List.length_singleton]; omega) (by
        rw [List.filterMap_cons_some hy] at hQ
        rwa [List.append_assoc])
      rwa [List.map_append] at this
    · exact lc_go f xs acc (fun z hz => h z (List.mem_cons_of_mem _ hz)) (by omega) (by rwa [List.filterMap_cons_none hn] at hQ)
/-- [e for x in xs if t] -/
theorem lc_all {α β : Type} {enc : β → PyData} {enco : α → PyData} {g : GD} {wt : PWB} {we : PW} {ρ : En} {Q : List PyData → Prop} (xs : List β) (f : β → Option α)
    (h : ∀ x ∈ xs, ∀ (Y : PyData → Prop) (N : Prop), (∀ y, f x = some y → Y (enco y)) → (f x = none → N) → g (enc x) ρ fun ρ2 => wt ρ2 (fun k => if k = true then we ρ2 Y (fun _ => False) else N) (fun _ => False))
    (hl : xs.length ≤ 100000) (hQ : Q ((xs.filterMap f).map enco)) : goLc g wt we ρ (xs.map enc) [] Q :=
  lc_go f xs [] h (by simpa using hl) hQ
/-- [e for x in xs] -/
theorem lc_map {α β : Type} {enc : β → PyData} {enco : α → PyData} {g : GD} {we : PW} {ρ : En} {Q : List PyData → Prop} (xs : List β) (f : β → α)
    (h : ∀ x ∈ xs, ∀ (Y : PyData → Prop), Y (enco (f x)) → g (enc x) ρ fun ρ2 => we ρ2 Y (fun _ => False))
    (hl : xs.length ≤ 100000) (hQ : Q ((xs.map f).map enco)) : goLc g wYes we ρ (xs.map enc) [] Q :=
  lc_all xs (fun x => some (f x)) (fun x hx Y N hY hN => by
    have := h x hx Y (hY _ rfl)
    exact this) hl (by rwa [show xs.filterMap (fun x => some (f x)) = xs.map f from List.filterMap_eq_map ▸ rfl])
theorem at_nat {α : Type} (xs : List α) {i : Nat} : atI xs (i : Int) = xs[i]? := by
  unfold atI ixN
  by_cases h : i < xs.length
  · rw [if_pos (by omega), if_pos (by omega)]
    simp
  · rw [if_pos (by omega), if_neg (by omega), List.getElem?_eq_none (by omega)]
    rfl
section
variable {α : Type} [DecidableEq α] [DatumOrd α]
theorem p_min (x : α) (xs : List α) {Q : PyData → Prop} (h : Q (Datum.toD (PySem.W.minOf x xs))) (hd : Datum.depth α ≤ 30 := by decide) : fMin (.list ((x :: xs).map Datum.toD)) Q :=
  ⟨⟨PySem.W.plainAll_map (x :: xs), Nat.le_trans (PySem.W.depthAll_map (x :: xs)) hd, PySem.W.alikeAll_datum (x :: xs)⟩, by
    show Q (PySem.W.minD (Datum.toD x) (xs.map Datum.toD))
    rw [PySem.W.minD_map x xs]
    exact h⟩
theorem p_max (x : α) (xs : List α) {Q : PyData → Prop} (h : Q (Datum.toD (PySem.W.maxOf x xs))) (hd : Datum.depth α ≤ 30 := by decide) : fMax (.list ((x :: xs).map Datum.toD)) Q :=
  ⟨⟨PySem.W.plainAll_map (x :: xs), Nat.le_trans (PySem.W.depthAll_map (x :: xs)) hd, PySem.W.alikeAll_datum (x :: xs)⟩, by
    show Q (PySem.W.maxD (Datum.toD x) (xs.map Datum.toD))
    rw [PySem.W.maxD_map x xs]
    exact h⟩
end
theorem plainAll_ints : ∀ ns : List Int, PyData.plainAll (ns.map .int) = true
  | [] => rfl
  | n :: r => by
    show (PyData.plain (.int n) && PyData.plainAll (r.map .int)) = true
    rw [plainAll_ints r]
    rfl
theorem sort_ints (ns : List Int) : (ns.map PyData.int).mergeSort (PySem.W.dataLe false id) = (ns.mergeSort fun a b => decide (a ≤ b)).map .int := by
  refine (List.map_mergeSort fun a _ b _ => ?_).symm
  exact (congrFun (congrFun (PySem.W.dataLe_int id) a) b).symm
theorem sort_side_ints (ns : List Int) : PyData.plainAll (ns.map .int) = true ∧ (∀ d ∈ ns.map PyData.int, d.depth ≤ 30) ∧ PySem.W.AllAlike (ns.map .int) ∧ PySem.W.Sortable (ns.map .int) := by
  refine ⟨plainAll_ints ns, fun d hd => ?_, PySem.W.AllAlike.of (enc := PyData.int) fun _ _ => rfl, PySem.W.Sortable.others (enc := PyData.int) fun b => ⟨fun e => (by cases e), fun _ e => (by cases e)⟩⟩
  obtain ⟨n, _, rfl⟩ := List.mem_map.mp hd
  exact Nat.zero_le _
end U
set_option Elab.async false
set_option linter.all false
set_option maxRecDepth 100000
set_option maxHeartbeats 1000000
namespace U
open PySem PySem.Spec PyProof.Rows L2 PL
open PySem.W (Datum DatumOrd Tup)
theorem noown {vs : List Nat} {ρ : En} (h : (vs.all fun i => match ρ[i]? with | some s => !s.owned | none => true) = true) : NoOwn vs ρ := fun i hi s hs => by
  have := List.all_eq_true.mp h i hi
  rw [hs] at this
  simpa using this
def IsMx (l : List Int) (v : Int) : Prop := v ∈ l ∧ ∀ u ∈ l, u ≤ v
theorem IsMx.uniq {l : List Int} {v u : Int} (a : IsMx l v) (b : IsMx l u) : v = u := by
  have := a.2 _ b.1
  have := b.2 _ a.1
  omega
theorem ixN_nat {n i : Nat} (h : i < n) : ixN n (i : Int) = some i := by
  unfold ixN
  rw [if_pos (by omega), if_pos (by omega)]
  rfl
theorem range0 (n : Nat) : rangeD 0 n = (List.range n).map fun i => PyData.int (i : Nat) := by
  unfold rangeD
  refine List.map_congr_left fun i _ => ?_
  rw [Int.zero_add]
theorem for_rng {g : GD} {b : SW} {D : PEn} (n : Nat) (Inv : Nat → En → Prop)
    (hs : ∀ i ρ (N : En → Prop), (∀ ρ', Inv (i + 1) ρ' → N ρ') → i < n → Inv i ρ → g (.int (i : Nat)) ρ fun ρ2 => b ρ2 { D with nx := N, ct := N, bk := D.nx }) (hd : ∀ ρ, Inv n ρ → D.nx ρ) (ρ : En) (h : Inv 0 ρ) : goFor g b D (rangeD 0 n) ρ :=
  for_range 0 n Inv (fun i ρ N hN hi hI => by rw [Int.zero_add]; exact hs i ρ N hN hi hI) hd ρ h
end U
set_option Elab.async false
set_option linter.all false
set_option maxRecDepth 100000
set_option maxHeartbeats 4000000
namespace M21
open PySem PySem.Spec PyProof.Rows L2 PL
open LamX (lamS_by)
def top (i : Nat) : Stmt := PySem.Challenge.pw_museum_k21_refusals_apart.main.body.getD i (.Pass ⟨0, 0, 0, 0⟩)
abbrev s_check_doors : Stmt := top 10
abbrev s_beside : Stmt := top 11
abbrev s_far_from : Stmt := top 12
abbrev s_first_way : Stmt := top 13
abbrev s_hangs_together : Stmt := top 14
abbrev s_shortest_round : Stmt := top 16
abbrev s_look_signs : Stmt := top 15
abbrev s_three : Stmt := top 20
abbrev s_check_of : Stmt := top 19
abbrev s_is_thing : Stmt := top 21
abbrev s_read : Stmt := top 22
abbrev s__law_dice : Stmt := top 26
abbrev s__law_roll : Stmt := top 27
abbrev s__law_rounds : Stmt := top 28
abbrev s__law_told : Stmt := top 29
abbrev s_law : Stmt := top 30
def ini (st : Stmt) : Stmt := match st with
  | .ClassDef _ _ _ (s :: _) _ _ _ _ _ _ _ => s
  | s => s
abbrev PR : Program := PySem.Challenge.pw_museum_k21_refusals_apart
abbrev si_BadNumber : Stmt := ini (top 5)
abbrev si_BadPaper : Stmt := ini (top 6)
theorem bt_abs : bootBuiltins "abs" = some (.builtin "abs") := by decide +kernel
theorem bt_bool : bootBuiltins "bool" = some (.type "bool") := by decide +kernel
theorem bt_int : bootBuiltins "int" = some (.type "int") := by decide +kernel
theorem bt_len : bootBuiltins "len" = some (.builtin "len") := by decide +kernel
theorem bt_list : bootBuiltins "list" = some (.type "list") := by decide +kernel
theorem bt_max : bootBuiltins "max" = some (.builtin "max") := by decide +kernel
theorem bt_min : bootBuiltins "min" = some (.builtin "min") := by decide +kernel
theorem bt_sorted : bootBuiltins "sorted" = some (.builtin "sorted") := by decide +kernel
theorem bt_str : bootBuiltins "str" = some (.type "str") := by decide +kernel
theorem bt_tuple : bootBuiltins "tuple" = some (.type "tuple") := by decide +kernel
abbrev s_ri : Stmt := inClass (top 24) 0
abbrev s_rp : Stmt := inClass (top 24) 4
abbrev s_rg : Stmt := inClass (top 24) 9
structure Ad where
  f_check_doors : Addr
  c_check_doors : Addr
  d_check_doors : FuncData
  p_check_doors : Addr
  f_beside : Addr
  c_beside : Addr
  d_beside : FuncData
  f_far_from : Addr
  c_far_from : Addr
  d_far_from : FuncData
  f_first_way : Addr
  c_first_way : Addr
  d_first_way : FuncData
  f_hangs_together : Addr
  c_hangs_together : Addr
  d_hangs_together : FuncData
  f_shortest_round : Addr
  c_shortest_round : Addr
  d_shortest_round : FuncData
  f_look_signs : Addr
  c_look_signs : Addr
  d_look_signs : FuncData
  f_three : Addr
  c_three : Addr
  d_three : FuncData
  f_check_of : Addr
  c_check_of : Addr
  d_check_of : FuncData
  p_check_of : Addr
  f_is_thing : Addr
  c_is_thing : Addr
  d_is_thing : FuncData
  p_is_thing : Addr
  f_read : Addr
  c_read : Addr
  d_read : FuncData
  f__law_dice : Addr
  c__law_dice : Addr
  d__law_dice : FuncData
  f__law_roll : Addr
  c__law_roll : Addr
  d__law_roll : FuncData
  f__law_rounds : Addr
  c__law_rounds : Addr
  d__law_rounds : FuncData
  f__law_told : Addr
  c__law_told : Addr
  d__law_told : FuncData
  f_law : Addr
  c_law : Addr
  d_law : FuncData
  p_law : Addr
  x_BadPlan : Addr
  x_NoWay : Addr
  x_BadNumber : Addr
  x_BadPaper : Addr
  x_TooLarge : Addr
  x_BadDeed : Addr
  x_HallFault : Addr
  i_BadNumber : Addr
  di_BadNumber : FuncData
  i_BadPaper : Addr
  di_BadPaper : FuncData
  C_R : Addr
  p_ri : Addr
  f_ri : Addr
  c_ri : Addr
  d_ri : FuncData
  f_rp : Addr
  c_rp : Addr
  d_rp : FuncData
  f_rg : Addr
  c_rg : Addr
  d_rg : FuncData
structure ExM (K : PySem.W.Frag) (mg : Str → Option Value) (x : Str) (C : Addr) : Prop where
  g : mg x = some (.ref C)
  kp : PySem.W.keepIn K (.ref C) = true
  sub : PySem.W.subIn K (.ref C) (.type "BaseException") = some true
  ty : PySem.W.typeIn K (.ref C) = some (.type "type")
structure Tx (a : Ad) (K : PySem.W.Frag) (mg : Str → Option Value) (base : Heap) (T : Tb) : Prop where
  m_ValueError : mg "ValueError" = none
  m_abs : mg "abs" = none
  m_all : mg "all" = none
  m_any : mg "any" = none
  m_bool : mg "bool" = none
  m_enumerate : mg "enumerate" = none
  m_int : mg "int" = none
  m_isinstance : mg "isinstance" = none
  m_len : mg "len" = none
  m_list : mg "list" = none
  m_max : mg "max" = none
  m_min : mg "min" = none
  m_range : mg "range" = none
  m_sorted : mg "sorted" = none
  m_str : mg "str" = none
  m_sum : mg "sum" = none
  m_tuple : mg "tuple" = none
  k_FIGURES : ∃ t, mg "FIGURES" = some (.str "0123456789" t)
  f_check_doors : FunC K "check_doors" s_check_doors a.f_check_doors a.c_check_doors a.d_check_doors
  g_check_doors : mg "check_doors" = some (.ref a.f_check_doors)
  t_check_doors : GxR.TabB base mg a.c_check_doors a.p_check_doors
  tm_check_doors : a.p_check_doors ∈ T.tg
  tn_check_doors : a.p_check_doors ∉ T.ap
  f_beside : FunC K "beside" s_beside a.f_beside a.c_beside a.d_beside
  g_beside : mg "beside" = some (.ref a.f_beside)
  f_far_from : FunC K "far_from" s_far_from a.f_far_from a.c_far_from a.d_far_from
  g_far_from : mg "far_from" = some (.ref a.f_far_from)
  f_first_way : FunC K "first_way" s_first_way a.f_first_way a.c_first_way a.d_first_way
  g_first_way : mg "first_way" = some (.ref a.f_first_way)
  f_hangs_together : FunC K "hangs_together" s_hangs_together a.f_hangs_together a.c_hangs_together a.d_hangs_together
  g_hangs_together : mg "hangs_together" = some (.ref a.f_hangs_together)
  f_shortest_round : FunC K "shortest_round" s_shortest_round a.f_shortest_round a.c_shortest_round a.d_shortest_round
  g_shortest_round : mg "shortest_round" = some (.ref a.f_shortest_round)
  f_look_signs : FunC K "look_signs" s_look_signs a.f_look_signs a.c_look_signs a.d_look_signs
  g_look_signs : mg "look_signs" = some (.ref a.f_look_signs)
  f_three : FunC K "three" s_three a.f_three a.c_three a.d_three
  g_three : mg "three" = some (.ref a.f_three)
  f_check_of : FunC K "check_of" s_check_of a.f_check_of a.c_check_of a.d_check_of
  g_check_of : mg "check_of" = some (.ref a.f_check_of)
  t_check_of : GxR.TabB base mg a.c_check_of a.p_check_of
  tm_check_of : a.p_check_of ∈ T.tg
  tn_check_of : a.p_check_of ∉ T.ap
  f_is_thing : FunC K "is_thing" s_is_thing a.f_is_thing a.c_is_thing a.d_is_thing
  g_is_thing : mg "is_thing" = some (.ref a.f_is_thing)
  t_is_thing : GxR.TabB base mg a.c_is_thing a.p_is_thing
  tm_is_thing : a.p_is_thing ∈ T.tg
  tn_is_thing : a.p_is_thing ∉ T.ap
  f_read : FunC K "read" s_read a.f_read a.c_read a.d_read
  g_read : mg "read" = some (.ref a.f_read)
  f__law_dice : FunC K "_law_dice" s__law_dice a.f__law_dice a.c__law_dice a.d__law_dice
  g__law_dice : mg "_law_dice" = some (.ref a.f__law_dice)
  f__law_roll : FunC K "_law_roll" s__law_roll a.f__law_roll a.c__law_roll a.d__law_roll
  g__law_roll : mg "_law_roll" = some (.ref a.f__law_roll)
  f__law_rounds : FunC K "_law_rounds" s__law_rounds a.f__law_rounds a.c__law_rounds a.d__law_rounds
  g__law_rounds : mg "_law_rounds" = some (.ref a.f__law_rounds)
  f__law_told : FunC K "_law_told" s__law_told a.f__law_told a.c__law_told a.d__law_told
  g__law_told : mg "_law_told" = some (.ref a.f__law_told)
  f_law : FunC K "law" s_law a.f_law a.c_law a.d_law
  g_law : mg "law" = some (.ref a.f_law)
  l_law : LamX.TabB base mg a.c_law a.p_law
  lm_law : (a.p_law, (envOfC "law" (defScope s_law) 0 0 (.ref 0)).qual ++ "<lambda>") ∈ T.tl
  lu_law : ∀ p ∈ T.tl, p.1 = a.p_law → p.2 = (envOfC "law" (defScope s_law) 0 0 (.ref 0)).qual ++ "<lambda>"
  ln_law : a.p_law ∉ T.tg ++ T.tn
  x_BadPlan : ExM K mg "BadPlan" a.x_BadPlan
  xe_BadPlan : PySem.W.excIn K a.x_BadPlan [.type "ValueError", .type "Exception", .type "BaseException", .type "object"] "ValueError.__new__" = true
  x_NoWay : ExM K mg "NoWay" a.x_NoWay
  xe_NoWay : PySem.W.excIn K a.x_NoWay [.type "ValueError", .type "Exception", .type "BaseException", .type "object"] "ValueError.__new__" = true
  x_BadNumber : ExM K mg "BadNumber" a.x_BadNumber
  x_BadPaper : ExM K mg "BadPaper" a.x_BadPaper
  x_TooLarge : ExM K mg "TooLarge" a.x_TooLarge
  xe_TooLarge : PySem.W.excIn K a.x_TooLarge [.type "ValueError", .type "Exception", .type "BaseException", .type "object"] "ValueError.__new__" = true
  x_BadDeed : ExM K mg "BadDeed" a.x_BadDeed
  xe_BadDeed : PySem.W.excIn K a.x_BadDeed [.type "ValueError", .type "Exception", .type "BaseException", .type "object"] "ValueError.__new__" = true
  x_HallFault : ExM K mg "HallFault" a.x_HallFault
  R_g : mg "Register" = some (.ref a.C_R)
  t_ri : GxR.TabB base mg a.c_ri a.p_ri
  tm_ri : a.p_ri ∈ T.tg
  tn_ri : a.p_ri ∉ T.ap
  s_BadNumber : SupI PR K a.x_BadNumber a.i_BadNumber "BadNumber.__init__" (defArgs si_BadNumber) (defBody si_BadNumber) (defScope si_BadNumber) a.di_BadNumber "place"
  ic_BadNumber : PySem.W.findIn K (.ref a.x_BadNumber) "__init__" = some (some (.ref a.i_BadNumber))
  ti_BadNumber : PySem.W.typeIn K (.ref a.i_BadNumber) = some (.type "function")
  s_BadPaper : SupI PR K a.x_BadPaper a.i_BadPaper "BadPaper.__init__" (defArgs si_BadPaper) (defBody si_BadPaper) (defScope si_BadPaper) a.di_BadPaper "part"
  ic_BadPaper : PySem.W.findIn K (.ref a.x_BadPaper) "__init__" = some (some (.ref a.i_BadPaper))
  ti_BadPaper : PySem.W.typeIn K (.ref a.i_BadPaper) = some (.type "function")
  ec_BadPlan : ExcC K a.x_BadPlan
  e7_BadPlan : PySem.W.exmOne K (.ref a.x_BadPlan) (.ref a.x_HallFault) = some true
  k7_BadPlan : Ans7 K a.x_BadPlan a.x_NoWay a.x_BadNumber a.x_BadPaper a.x_TooLarge a.x_BadDeed a.x_BadPlan [true, false, false, false, false, false, true]
  ec_NoWay : ExcC K a.x_NoWay
  e7_NoWay : PySem.W.exmOne K (.ref a.x_NoWay) (.ref a.x_HallFault) = some true
  k7_NoWay : Ans7 K a.x_BadPlan a.x_NoWay a.x_BadNumber a.x_BadPaper a.x_TooLarge a.x_BadDeed a.x_NoWay [false, true, false, false, false, false, true]
  ec_BadNumber : ExcC K a.x_BadNumber
  e7_BadNumber : PySem.W.exmOne K (.ref a.x_BadNumber) (.ref a.x_HallFault) = some true
  k7_BadNumber : Ans7 K a.x_BadPlan a.x_NoWay a.x_BadNumber a.x_BadPaper a.x_TooLarge a.x_BadDeed a.x_BadNumber [false, false, true, false, false, false, true]
  ec_BadPaper : ExcC K a.x_BadPaper
  e7_BadPaper : PySem.W.exmOne K (.ref a.x_BadPaper) (.ref a.x_HallFault) = some true
  k7_BadPaper : Ans7 K a.x_BadPlan a.x_NoWay a.x_BadNumber a.x_BadPaper a.x_TooLarge a.x_BadDeed a.x_BadPaper [false, false, false, true, false, false, true]
  ec_TooLarge : ExcC K a.x_TooLarge
  e7_TooLarge : PySem.W.exmOne K (.ref a.x_TooLarge) (.ref a.x_HallFault) = some true
  k7_TooLarge : Ans7 K a.x_BadPlan a.x_NoWay a.x_BadNumber a.x_BadPaper a.x_TooLarge a.x_BadDeed a.x_TooLarge [false, false, false, false, true, false, true]
  ec_BadDeed : ExcC K a.x_BadDeed
  e7_BadDeed : PySem.W.exmOne K (.ref a.x_BadDeed) (.ref a.x_HallFault) = some true
  k7_BadDeed : Ans7 K a.x_BadPlan a.x_NoWay a.x_BadNumber a.x_BadPaper a.x_TooLarge a.x_BadDeed a.x_BadDeed [false, false, false, false, false, true, true]
  R : RgC K a.C_R
  mk_ri : Mk K a.C_R a.f_ri
  F_ri : FunM K "__init__" "Register.__init__" s_ri a.f_ri a.c_ri a.d_ri
  F_rp : FunM K "put_by" "Register.put_by" s_rp a.f_rp a.c_rp a.d_rp
  F_rg : FunM K "go_on" "Register.go_on" s_rg a.f_rg a.c_rg a.d_rg
  me_rp : Meth K a.C_R "put_by" a.f_rp
  me_rg : Meth K a.C_R "go_on" a.f_rg
def tbl7 (a : Ad) : ATab := [(a.x_BadPlan, [true, false, false, false, false, false, true]), (a.x_NoWay, [false, true, false, false, false, false, true]), (a.x_BadNumber, [false, false, true, false, false, false, true]), (a.x_BadPaper, [false, false, false, true, false, false, true]), (a.x_TooLarge, [false, false, false, false, true, false, true]), (a.x_BadDeed, [false, false, false, false, false, true, true])]
abbrev N_check_doors : List Str := ["many", "doors", "one", "other", "k"]
theorem sc_check_doors : FnScope N_check_doors ["many", "doors"] (defScope s_check_doors) := ⟨rfl, rfl, rfl, by decide +kernel, rfl, by decide +kernel, by decide +kernel⟩
abbrev N_beside : List Str := ["doors", "room", "one", "other"]
theorem sc_beside : FnScope N_beside ["doors", "room"] (defScope s_beside) := ⟨rfl, rfl, rfl, by decide +kernel, rfl, by decide +kernel, by decide +kernel⟩
abbrev N_far_from : List Str := ["many", "doors", "start", "found", "row", "k", "other"]
theorem sc_far_from : FnScope N_far_from ["many", "doors", "start"] (defScope s_far_from) := ⟨rfl, rfl, rfl, by decide +kernel, rfl, by decide +kernel, by decide +kernel⟩
abbrev N_first_way : List Str := ["many", "doors", "start", "goal", "far", "found", "one"]
theorem sc_first_way : FnScope N_first_way ["many", "doors", "start", "goal"] (defScope s_first_way) := ⟨rfl, rfl, rfl, by decide +kernel, rfl, by decide +kernel, by decide +kernel⟩
abbrev N_hangs_together : List Str := ["many", "doors"]
theorem sc_hangs_together : FnScope N_hangs_together ["many", "doors"] (defScope s_hangs_together) := ⟨rfl, rfl, rfl, by decide +kernel, rfl, by decide +kernel, by decide +kernel⟩
abbrev N_shortest_round : List Str := ["many", "doors", "start", "far", "best", "size", "after", "held", "last", "room", "key", "here"]
theorem sc_shortest_round : FnScope N_shortest_round ["many", "doors", "start"] (defScope s_shortest_round) := ⟨rfl, rfl, rfl, by decide +kernel, rfl, by decide +kernel, by decide +kernel⟩
abbrev N_look_signs : List Str := ["many", "doors", "told", "room", "way", "seen", "left", "here", "pair", "one", "two"]
theorem sc_look_signs : FnScope N_look_signs ["many", "doors", "told"] (defScope s_look_signs) := ⟨rfl, rfl, rfl, by decide +kernel, rfl, by decide +kernel, by decide +kernel⟩
abbrev N_three : List Str := ["number", "text"]
theorem sc_three : FnScope N_three ["number"] (defScope s_three) := ⟨rfl, rfl, rfl, by decide +kernel, rfl, by decide +kernel, by decide +kernel⟩
abbrev N_check_of : List Str := ["year", "lot", "item", "figures", "whole", "k", "sign"]
theorem sc_check_of : FnScope N_check_of ["year", "lot", "item"] (defScope s_check_of) := ⟨rfl, rfl, rfl, by decide +kernel, rfl, by decide +kernel, by decide +kernel⟩
abbrev N_is_thing : List Str := ["thing", "year", "lot", "item", "one"]
theorem sc_is_thing : FnScope N_is_thing ["thing"] (defScope s_is_thing) := ⟨rfl, rfl, rfl, by decide +kernel, rfl, by decide +kernel, by decide +kernel⟩
abbrev N_read : List Str := ["text", "form", "k", "sign", "here", "thing"]
theorem sc_read : FnScope N_read ["text"] (defScope s_read) := ⟨rfl, rfl, rfl, by decide +kernel, rfl, by decide +kernel, by decide +kernel⟩
abbrev N__law_dice : List Str := ["cell"]
theorem sc__law_dice : FnScope N__law_dice ["cell"] (defScope s__law_dice) := ⟨rfl, rfl, rfl, by decide +kernel, rfl, by decide +kernel, by decide +kernel⟩
abbrev N__law_roll : List Str := ["dice", "many", "found"]
theorem sc__law_roll : FnScope N__law_roll ["dice", "many"] (defScope s__law_roll) := ⟨rfl, rfl, rfl, by decide +kernel, rfl, by decide +kernel, by decide +kernel⟩
abbrev N__law_rounds : List Str := ["script", "most", "cells", "cell"]
theorem sc__law_rounds : FnScope N__law_rounds ["script", "most"] (defScope s__law_rounds) := ⟨rfl, rfl, rfl, by decide +kernel, rfl, by decide +kernel, by decide +kernel⟩
abbrev N__law_told : List Str := ["what", "e", "some"]
theorem sc__law_told : FnScope N__law_told ["what"] (defScope s__law_told) := ⟨rfl, rfl, rfl, by decide +kernel, rfl, by decide +kernel, by decide +kernel⟩
abbrev N_law : List Str := ["script", "dice", "many", "book", "whats", "k", "j"]
theorem sc_law : FnScope N_law ["script"] (defScope s_law) := ⟨rfl, rfl, rfl, by decide +kernel, rfl, by decide +kernel, by decide +kernel⟩
section
variable {w : World} {K : PySem.W.Frag} {mg : Str → Option Value} {base : Heap} {T : Tb} {a : Ad}
theorem bi_check_doors (t : Tx a K mg base T) : L2.Binds K a.d_check_doors ["many", "doors"] [] := t.f_check_doors.binds (ps := ["many", "doors"]) fun _ _ _ _ _ _ us hl => match us, hl with | [_, _], _ => rfl
theorem bi_beside (t : Tx a K mg base T) : L2.Binds K a.d_beside ["doors", "room"] [] := t.f_beside.binds (ps := ["doors", "room"]) fun _ _ _ _ _ _ us hl => match us, hl with | [_, _], _ => rfl
theorem bi_far_from (t : Tx a K mg base T) : L2.Binds K a.d_far_from ["many", "doors", "start"] [] := t.f_far_from.binds (ps := ["many", "doors", "start"]) fun _ _ _ _ _ _ us hl => match us, hl with | [_, _, _], _ => rfl
theorem bi_first_way (t : Tx a K mg base T) : L2.Binds K a.d_first_way ["many", "doors", "start", "goal"] [] := t.f_first_way.binds (ps := ["many", "doors", "start", "goal"]) fun _ _ _ _ _ _ us hl => match us, hl with | [_, _, _, _], _ => rfl
theorem bi_hangs_together (t : Tx a K mg base T) : L2.Binds K a.d_hangs_together ["many", "doors"] [] := t.f_hangs_together.binds (ps := ["many", "doors"]) fun _ _ _ _ _ _ us hl => match us, hl with | [_, _], _ => rfl
theorem bi_shortest_round (t : Tx a K mg base T) : L2.Binds K a.d_shortest_round ["many", "doors", "start"] [] := t.f_shortest_round.binds (ps := ["many", "doors", "start"]) fun _ _ _ _ _ _ us hl => match us, hl with | [_, _, _], _ => rfl
theorem bi_look_signs (t : Tx a K mg base T) : L2.Binds K a.d_look_signs ["many", "doors", "told"] [] := t.f_look_signs.binds (ps := ["many", "doors", "told"]) fun _ _ _ _ _ _ us hl => match us, hl with | [_, _, _], _ => rfl
theorem bi_three (t : Tx a K mg base T) : L2.Binds K a.d_three ["number"] [] := t.f_three.binds (ps := ["number"]) fun _ _ _ _ _ _ us hl => match us, hl with | [_], _ => rfl
theorem bi_check_of (t : Tx a K mg base T) : L2.Binds K a.d_check_of ["year", "lot", "item"] [] := t.f_check_of.binds (ps := ["year", "lot", "item"]) fun _ _ _ _ _ _ us hl => match us, hl with | [_, _, _], _ => rfl
theorem bi_is_thing (t : Tx a K mg base T) : L2.Binds K a.d_is_thing ["thing"] [] := t.f_is_thing.binds (ps := ["thing"]) fun _ _ _ _ _ _ us hl => match us, hl with | [_], _ => rfl
theorem bi_read (t : Tx a K mg base T) : L2.Binds K a.d_read ["text"] [] := t.f_read.binds (ps := ["text"]) fun _ _ _ _ _ _ us hl => match us, hl with | [_], _ => rfl
theorem bi__law_dice (t : Tx a K mg base T) : L2.Binds K a.d__law_dice ["cell"] [] := t.f__law_dice.binds (ps := ["cell"]) fun _ _ _ _ _ _ us hl => match us, hl with | [_], _ => rfl
theorem bi__law_roll (t : Tx a K mg base T) : L2.Binds K a.d__law_roll ["dice", "many"] [] := t.f__law_roll.binds (ps := ["dice", "many"]) fun _ _ _ _ _ _ us hl => match us, hl with | [_, _], _ => rfl
theorem bi__law_rounds (t : Tx a K mg base T) : L2.Binds K a.d__law_rounds ["script", "most"] [] := t.f__law_rounds.binds (ps := ["script", "most"]) fun _ _ _ _ _ _ us hl => match us, hl with | [_, _], _ => rfl
theorem bi__law_told (t : Tx a K mg base T) : L2.Binds K a.d__law_told ["what"] [] := t.f__law_told.binds (ps := ["what"]) fun _ _ _ _ _ _ us hl => match us, hl with | [_], _ => rfl
theorem bini_BadNumber (t : Tx a K mg base T) : L2.Binds K a.di_BadNumber ["self", "place"] [] := t.s_BadNumber.binds (ps := ["self", "place"]) fun _ _ _ _ _ _ _ us hl => match us, hl with | [_, _], _ => rfl
theorem ini_BadNumber (t : Tx a K mg base T) : FnOk PR w K mg base (L2.CX PR w) 1 a.i_BadNumber a.di_BadNumber ["self", "place"] (spInit a.x_BadNumber "place") := init_ok t.s_BadNumber (by rfl) (by rfl) (NdefX.nscope_by (by decide +kernel)) (by decide +kernel) (by decide +kernel) (fun _ _ _ _ => ⟨_, rfl⟩) (by decide) (by decide)
theorem bini_BadPaper (t : Tx a K mg base T) : L2.Binds K a.di_BadPaper ["self", "part"] [] := t.s_BadPaper.binds (ps := ["self", "part"]) fun _ _ _ _ _ _ _ us hl => match us, hl with | [_, _], _ => rfl
theorem ini_BadPaper (t : Tx a K mg base T) : FnOk PR w K mg base (L2.CX PR w) 1 a.i_BadPaper a.di_BadPaper ["self", "part"] (spInit a.x_BadPaper "part") := init_ok t.s_BadPaper (by rfl) (by rfl) (NdefX.nscope_by (by decide +kernel)) (by decide +kernel) (by decide +kernel) (fun _ _ _ _ => ⟨_, rfl⟩) (by decide) (by decide)
theorem Tx.kn (t : Tx a K mg base T) (kn : List (Addr × HO)) : Tx a K mg base { T with kn := kn } := ⟨t.m_ValueError, t.m_abs, t.m_all, t.m_any, t.m_bool, t.m_enumerate, t.m_int, t.m_isinstance, t.m_len, t.m_list, t.m_max, t.m_min, t.m_range, t.m_sorted, t.m_str, t.m_sum, t.m_tuple, t.k_FIGURES, t.f_check_doors, t.g_check_doors, t.t_check_doors, t.tm_check_doors, t.tn_check_doors, t.f_beside, t.g_beside, t.f_far_from, t.g_far_from, t.f_first_way, t.g_first_way, t.f_hangs_together, t.g_hangs_together, t.f_shortest_round, t.g_shortest_round, t.f_look_signs, t.g_look_signs, t.f_three, t.g_three, t.f_check_of, t.g_check_of, t.t_check_of, t.tm_check_of, t.tn_check_of, t.f_is_thing, t.g_is_thing, t.t_is_thing, t.tm_is_thing, t.tn_is_thing, t.f_read, t.g_read, t.f__law_dice, t.g__law_dice, t.f__law_roll, t.g__law_roll, t.f__law_rounds, t.g__law_rounds, t.f__law_told, t.g__law_told, t.f_law, t.g_law, t.l_law, t.lm_law, t.lu_law, t.ln_law, t.x_BadPlan, t.xe_BadPlan, t.x_NoWay, t.xe_NoWay, t.x_BadNumber, t.x_BadPaper, t.x_TooLarge, t.xe_TooLarge, t.x_BadDeed, t.xe_BadDeed, t.x_HallFault, t.R_g, t.t_ri, t.tm_ri, t.tn_ri, t.s_BadNumber, t.ic_BadNumber, t.ti_BadNumber, t.s_BadPaper, t.ic_BadPaper, t.ti_BadPaper, t.ec_BadPlan, t.e7_BadPlan, t.k7_BadPlan, t.ec_NoWay, t.e7_NoWay, t.k7_NoWay, t.ec_BadNumber, t.e7_BadNumber, t.k7_BadNumber, t.ec_BadPaper, t.e7_BadPaper, t.k7_BadPaper, t.ec_TooLarge, t.e7_TooLarge, t.k7_TooLarge, t.ec_BadDeed, t.e7_BadDeed, t.k7_BadDeed, t.R, t.mk_ri, t.F_ri, t.F_rp, t.F_rg, t.me_rp, t.me_rg⟩
theorem Tx.dc0 (t : Tx a K mg base T) : Tx a K mg base { T with dc := [] } := ⟨t.m_ValueError, t.m_abs, t.m_all, t.m_any, t.m_bool, t.m_enumerate, t.m_int, t.m_isinstance, t.m_len, t.m_list, t.m_max, t.m_min, t.m_range, t.m_sorted, t.m_str, t.m_sum, t.m_tuple, t.k_FIGURES, t.f_check_doors, t.g_check_doors, t.t_check_doors, t.tm_check_doors, t.tn_check_doors, t.f_beside, t.g_beside, t.f_far_from, t.g_far_from, t.f_first_way, t.g_first_way, t.f_hangs_together, t.g_hangs_together, t.f_shortest_round, t.g_shortest_round, t.f_look_signs, t.g_look_signs, t.f_three, t.g_three, t.f_check_of, t.g_check_of, t.t_check_of, t.tm_check_of, t.tn_check_of, t.f_is_thing, t.g_is_thing, t.t_is_thing, t.tm_is_thing, t.tn_is_thing, t.f_read, t.g_read, t.f__law_dice, t.g__law_dice, t.f__law_roll, t.g__law_roll, t.f__law_rounds, t.g__law_rounds, t.f__law_told, t.g__law_told, t.f_law, t.g_law, t.l_law, t.lm_law, t.lu_law, t.ln_law, t.x_BadPlan, t.xe_BadPlan, t.x_NoWay, t.xe_NoWay, t.x_BadNumber, t.x_BadPaper, t.x_TooLarge, t.xe_TooLarge, t.x_BadDeed, t.xe_BadDeed, t.x_HallFault, t.R_g, t.t_ri, t.tm_ri, t.tn_ri, t.s_BadNumber, t.ic_BadNumber, t.ti_BadNumber, t.s_BadPaper, t.ic_BadPaper, t.ti_BadPaper, t.ec_BadPlan, t.e7_BadPlan, t.k7_BadPlan, t.ec_NoWay, t.e7_NoWay, t.k7_NoWay, t.ec_BadNumber, t.e7_BadNumber, t.k7_BadNumber, t.ec_BadPaper, t.e7_BadPaper, t.k7_BadPaper, t.ec_TooLarge, t.e7_TooLarge, t.k7_TooLarge, t.ec_BadDeed, t.e7_BadDeed, t.k7_BadDeed, t.R, t.mk_ri, t.F_ri, t.F_rp, t.F_rg, t.me_rp, t.me_rg⟩
abbrev N_ri : List Str := ["self", "rooms", "room"]
theorem sc_ri : FnScope N_ri ["self", "rooms"] (defScope s_ri) := ⟨rfl, rfl, rfl, by decide +kernel, rfl, by decide +kernel, by decide +kernel⟩
theorem bi_ri (t : Tx a K mg base T) : L2.Binds K a.d_ri ["self", "rooms"] [] := t.F_ri.binds (ps := ["self", "rooms"]) fun _ _ _ _ _ _ us hl => match us, hl with | [_, _], _ => rfl
abbrev N_rp : List Str := ["self", "thing"]
theorem sc_rp : FnScope N_rp ["self", "thing"] (defScope s_rp) := ⟨rfl, rfl, rfl, by decide +kernel, rfl, by decide +kernel, by decide +kernel⟩
theorem bi_rp (t : Tx a K mg base T) : L2.Binds K a.d_rp ["self", "thing"] [] := t.F_rp.binds (ps := ["self", "thing"]) fun _ _ _ _ _ _ us hl => match us, hl with | [_, _], _ => rfl
abbrev N_rg : List Str := ["self", "thing", "states", "after", "place", "name", "state", "here", "past"]
theorem sc_rg : FnScope N_rg ["self", "thing", "states", "after", "place"] (defScope s_rg) := ⟨rfl, rfl, rfl, by decide +kernel, rfl, by decide +kernel, by decide +kernel⟩
theorem bi_rg (t : Tx a K mg base T) : L2.Binds K a.d_rg ["self", "thing", "states", "after", "place"] [] := t.F_rg.binds (ps := ["self", "thing", "states", "after", "place"]) fun _ _ _ _ _ _ us hl => match us, hl with | [_, _, _, _, _], _ => rfl
def s1_ri : Stmt := (defBody s_ri).getD 0 (.Pass ⟨0, 0, 0, 0⟩)
def u_ri1 (a : Ad) : SW :=
 (sIf (wT (wGen PyData.bool (wItL (wVar 1)) (gNameD 2) wYes (w2 (fC fun i j => decide (i < j)) (wRd 2) (wC (.int 0))) [2] rAnyD)) (sRaise a.x_BadDeed) sNil)
theorem dd_ri1 (t : Tx a K mg base T) (A : Around) (outer : List Env) (s : Shared) (H : Hp) (E : XK) (hr : Room 10 (A.deeper (envOfC "Register.__init__" (defScope s_ri) s.heap.objs.size a.f_ri (.ref a.c_ri)))) :
  DS T (cxOf (L2.CX PR w) PR w K mg base N_ri "Register.__init__" (defScope s_ri) a.f_ri (.ref a.c_ri) A outer s H E) (fun cls d _ H => E cls d H) s1_ri (u_ri1 a) :=
 (ds_if (dt_val (de_gen (toD := PyData.bool) (toV := V.bl) (R := rAnyD) (vR := (fun l => .bl (l.any id))) false hTB (fun _ _ _ => .bl _) (k := 9) hrr_any (GxI.gx_any hr) (by rfl) t.m_any hr (by rfl) sc_ri.nd (.of t.t_ri) t.tm_ri t.tn_ri (by rfl) ⟨by rfl, nocell_by (by rfl), by rfl⟩ (blk_by (own := [("room", 2)]) (by rfl)) (sl := [2]) (by decide) (di_list (de_var 1 (pv 1))) (fun _ _ _ _ _ _ _ => (dg_name 2 (pg_name sc_ri.nd rfl (by first | exact .inl rfl | exact .inr rfl)))) (fun _ _ _ _ _ _ _ hR => dts_nil) (fun _ _ _ _ _ _ _ hR => (de_cmp opD_ltI mono_fC (dr_var 2 (pv 2)) (dr_of de_int) (by rfl)))))
 (dss_one (ds_raise rfl (takes_of rfl rfl rfl rfl) (pmk_own PySem.F.excBase_ValueError t.xe_BadDeed t.x_BadDeed.g t.x_BadDeed.kp (raises_own t.x_BadDeed.sub t.x_BadDeed.ty) rfl))) dss_nil)
theorem hu_ri1 (p : Addr) (D : PEn) (h : D.nx [.sh (mk p), .sh (.list [.int 1]), .un]) : u_ri1 a [.sh (mk p), .sh (.list [.int 1]), .un] D :=
  ⟨U.noown rfl, [some false], ⟨⟨rfl, rfl⟩, trivial⟩, h⟩
theorem ok_ri7 (t : Tx a K mg base T) : FnOk PR w K mg base (L2.CX PR w) 11 a.f_ri a.d_ri ["self", "rooms"] (spRI T a.C_R) :=
  ok_ri (k := 10) (u1 := u_ri1 a) t.F_ri sc_ri rfl t.R (by rfl) (by rfl) (by rfl) (by rfl) t.m_tuple (fun A outer s H E hr => dd_ri1 t.dc0 A outer s H E hr) hu_ri1 (fun _ _ _ _ _ => by rfl) (fun _ _ _ _ _ => by rfl) (fun _ _ _ _ _ => by rfl) (fun _ _ _ _ _ => by rfl)
def u_rg (a : Ad) : SW := sSeq (sIf (wOr (wThings 0 (wVar 1)) (fun _ _ _ => False)) (sRaise a.x_BadDeed) sNil) (fun _ _ => False)
theorem dd_rg (t : Tx a K mg base T) (A : Around) (outer : List Env) (s : Shared) (H : Hp) (E : XK) (hr : Room 8 (A.deeper (envOfC "Register.go_on" (defScope s_rg) s.heap.objs.size a.f_rg (.ref a.c_rg)))) :
  DSs T (cxOf (L2.CX PR w) PR w K mg base N_rg "Register.go_on" (defScope s_rg) a.f_rg (.ref a.c_rg) A outer s H E) (fun cls d _ H => E cls d H) (defBody s_rg) (u_rg a) :=
  dss_cons (ds_if (dt_bool (dw_or (dt_things t.R hr (pv 0) (by rfl) (de_var 1 (pv 1)) (by rfl)) (dw_or1 dt_off))) (dss_one (ds_raise rfl (takes_of rfl rfl rfl rfl) (pmk_own PySem.F.excBase_ValueError t.xe_BadDeed t.x_BadDeed.g t.x_BadDeed.kp (raises_own t.x_BadDeed.sub t.x_BadDeed.ty) rfl))) dss_nil) dss_off
def u_rp (a : Ad) : SW := sEx (wMeth 5 0 (cOf N_rg (u_rg a)) (wpSh (wVar 1) (wpSh (wTup (wCons (wC (.str "in")) (wCons (wC (.str "shown")) (wCons (wC (.str "lent")) wNil)))) (wpSh (wC (.str "store")) (wpSh (wC .none) wpNil)))))
def c_rg (a : Ad) : PW := cOf N_rg (u_rg a)
theorem mono_rg (t : Tx a K mg base T) (w : World) (s : Shared) {A : Around} (hr : Room (8 + 1) A) : Mono (c_rg a) := mono_cOf (dd_rg (w := w) t A [] s (fun _ => none) (fun _ _ _ => False) (hr.deeper _)).mono
theorem ok_rg (t : Tx a K mg base T) : FnOk PR w K mg base (L2.CX PR w) (8 + 1) a.f_rg a.d_rg ["self", "thing", "states", "after", "place"] (spD T K 5 (c_rg a)) := fn_okDM t.F_rg sc_rg fun A outer s H E hr => dd_rg t A outer s H E hr
theorem dd_rp (t : Tx a K mg base T) (A : Around) (outer : List Env) (s : Shared) (H : Hp) (E : XK) (hr : Room 12 (A.deeper (envOfC "Register.put_by" (defScope s_rp) s.heap.objs.size a.f_rp (.ref a.c_rp)))) :
  DSs T (cxOf (L2.CX PR w) PR w K mg base N_rp "Register.put_by" (defScope s_rp) a.f_rp (.ref a.c_rp) A outer s H E) (fun cls d _ H => E cls d H) (defBody s_rp) (u_rp a) :=
  dss_one (ds_ex (de_meth t.R t.me_rg (fun _ _ _ _ => by rfl) (ok_rg t) (mono_rg t w s (hr.mono (by decide))) (hr.mono (by decide)) (bi_rg t) (takes_of rfl rfl rfl rfl) (pv 0) (dp_sh (de_var 1 (pv 1)) (dp_sh (de_tup (da_cons de_str (da_cons de_str (da_cons de_str da_nil)))) (dp_sh de_str (dp_sh de_non dp_nil)))) (by rfl) (by rfl) (by rfl)))
def c_rp (a : Ad) : PW := cOf N_rp (u_rp a)
theorem mono_rp (t : Tx a K mg base T) (w : World) (s : Shared) {A : Around} (hr : Room (12 + 1) A) : Mono (c_rp a) := mono_cOf (dd_rp (w := w) t A [] s (fun _ => none) (fun _ _ _ => False) (hr.deeper _)).mono
theorem ok_rp (t : Tx a K mg base T) : FnOk PR w K mg base (L2.CX PR w) (12 + 1) a.f_rp a.d_rp ["self", "thing"] (spD T K 2 (c_rp a)) := fn_okDM t.F_rp sc_rp fun A outer s H E hr => dd_rp t A outer s H E hr
def es7 : List Expr := lamEs s_law 1
def l7 (j : Nat) : LamD := lamD (es7.getD j (.Constant .none 0 ⟨0, 0, 0, 0⟩))
def q7 (j : Nat) : Pos := lamP (es7.getD j (.Constant .none 0 ⟨0, 0, 0, 0⟩))
def ls7 : List LamD := [l7 0, l7 1, l7 2, l7 3, l7 4, l7 5]
def ps7 : List Pos := [q7 0, q7 1, q7 2, q7 3, q7 4, q7 5]
def u_check_doors (a : Ad) : SW :=
 (sSeq (sIf (wT (wGen PyData.bool (wItT (wVar 1)) (gTupD 2 (gConsD (gNameD 2) (gConsD (gNameD 3) gNilD))) wYes (wNotV (wCh3 (fC fun i j => decide (i ≤ j)) (fC fun i j => decide (i < j)) (fC fun i j => decide (i < j)) (wC (.int 0)) (wVar 2) (wVar 3) (wVar 0))) [2, 3] rAnyD)) (sRaise a.x_BadPlan) sNil)
 (sIf (wT (wGen PyData.bool (wRng1 (wCons (w2 (fI CT fun i j => i - j) (w1 fLen (wRd 1)) (wC (.int 1))) wNil)) (gNameD 4) wYes (w2 (fOrd fun x y => !PySem.W.dataLt x y) (w2 fIx (wRd 1) (wRd 4)) (w2 fIx (wRd 1) (w2 fAdd (wRd 4) (wC (.int 1))))) [4] rAnyD)) (sRaise a.x_BadPlan) sNil))
def c_check_doors (a : Ad) : PW := cOf N_check_doors (u_check_doors a)
theorem dd_check_doors (t : Tx a K mg base T) (A : Around) (outer : List Env) (s : Shared) (H : Hp) (E : XK) (hr : Room 8 (A.deeper (envOfC "check_doors" (defScope s_check_doors) s.heap.objs.size a.f_check_doors (.ref a.c_check_doors)))) :
  DSs T (cxOf (L2.CX PR w) PR w K mg base N_check_doors "check_doors" (defScope s_check_doors) a.f_check_doors (.ref a.c_check_doors) A outer s H E) (fun cls d _ H => E cls d H) (defBody s_check_doors) (u_check_doors a) :=
 (dss_cons (ds_if (dt_val (de_gen (toD := PyData.bool) (toV := V.bl) (R := rAnyD) (vR := (fun l => .bl (l.any id))) false hTB (fun _ _ _ => .bl _) (k := 7) hrr_any (GxI.gx_any hr) (by rfl) t.m_any hr (by rfl) sc_check_doors.nd (.of t.t_check_doors) t.tm_check_doors t.tn_check_doors (by rfl) ⟨by rfl, nocell_by (by rfl), by rfl⟩ (blk_by (own := [("one", 2), ("other", 3)]) (by rfl)) (sl := ([2] ++ ([3] ++ []))) (by decide) (di_tup (de_var 1 (pv 1))) (fun _ _ _ _ _ _ _ => (dg_tup (by rfl) (dgs_cons (dg_name 2 (pg_name sc_check_doors.nd rfl (by first | exact .inl rfl | exact .inr rfl))) (dgs_cons (dg_name 3 (pg_name sc_check_doors.nd rfl (by first | exact .inl rfl | exact .inr rfl))) dgs_nil)))) (fun _ _ _ _ _ _ _ hR => dts_nil) (fun _ _ _ _ _ _ _ hR => (de_not (de_chain3 opD_leI opD_ltI opD_ltI mono_fC mono_fC mono_fC de_int (de_var 2 (pv 2)) (de_var 3 (pv 3)) (de_var 0 (pv 0)))))))
 (dss_one (ds_raise rfl (takes_of rfl rfl rfl rfl) (pmk_own PySem.F.excBase_ValueError t.xe_BadPlan t.x_BadPlan.g t.x_BadPlan.kp (raises_own t.x_BadPlan.sub t.x_BadPlan.ty) rfl))) dss_nil)
 (dss_one (ds_if (dt_val (de_gen (toD := PyData.bool) (toV := V.bl) (R := rAnyD) (vR := (fun l => .bl (l.any id))) false hTB (fun _ _ _ => .bl _) (k := 7) hrr_any (GxI.gx_any hr) (by rfl) t.m_any hr (by rfl) sc_check_doors.nd (.of t.t_check_doors) t.tm_check_doors t.tn_check_doors (by rfl) ⟨by rfl, nocell_by (by rfl), by rfl⟩ (blk_by (own := [("k", 4)]) (by rfl)) (sl := [4]) (by decide) (di_range1 (by rfl) t.m_range (da_cons (de_op opD_sub mono_fI (dr_of (de_callB cd_len mono_len (by rfl) t.m_len bt_len (dr_var 1 (pv 1)))) (dr_of de_int)) da_nil)) (fun _ _ _ _ _ _ _ => (dg_name 4 (pg_name sc_check_doors.nd rfl (by first | exact .inl rfl | exact .inr rfl)))) (fun _ _ _ _ _ _ _ hR => dts_nil) (fun _ _ _ _ _ _ _ hR => (de_cmp (opD_ge hR) mono_ord (dr_of (de_ix (dr_var 1 (pv 1)) (dr_var 4 (pv 4)))) (dr_of (de_ix (dr_var 1 (pv 1)) (dr_of (de_op opD_add mono_add (dr_var 4 (pv 4)) (dr_of de_int))))) (by rfl)))))
 (dss_one (ds_raise rfl (takes_of rfl rfl rfl rfl) (pmk_own PySem.F.excBase_ValueError t.xe_BadPlan t.x_BadPlan.g t.x_BadPlan.kp (raises_own t.x_BadPlan.sub t.x_BadPlan.ty) rfl))) dss_nil)))
theorem mono_check_doors (t : Tx a K mg base T) (w : World) (s : Shared) {A : Around} (hr : Room (8 + 1) A) : Mono (c_check_doors a) := mono_cOf (dd_check_doors (w := w) t A [] s (fun _ => none) (fun _ _ _ => False) (hr.deeper _)).mono
theorem ok_check_doors (t : Tx a K mg base T) : FnOk PR w K mg base (L2.CX PR w) (8 + 1) a.f_check_doors a.d_check_doors ["many", "doors"] (spD T K 2 (c_check_doors a)) := fn_okD t.f_check_doors sc_check_doors fun A outer s H E hr => dd_check_doors t A outer s H E hr
def u_beside (a : Ad) : SW :=
 (sRet (w1 fSorted (wLc (wItT (wVar 0)) (gTupD 2 (gConsD (gNameD 2) (gConsD (gNameD 3) gNilD))) (wT (w2 (fIn false) (wRd 1) (wTup (wCons (wVar 2) (wCons (wVar 3) wNil))))) (w2 (fI CT fun i j => i - j) (w2 fAdd (wRd 2) (wRd 3)) (wRd 1)) [2, 3])))
def c_beside (a : Ad) : PW := cOf N_beside (u_beside a)
theorem dd_beside (t : Tx a K mg base T) (A : Around) (outer : List Env) (s : Shared) (H : Hp) (E : XK) (hr : Room 6 (A.deeper (envOfC "beside" (defScope s_beside) s.heap.objs.size a.f_beside (.ref a.c_beside)))) :
  DSs T (cxOf (L2.CX PR w) PR w K mg base N_beside "beside" (defScope s_beside) a.f_beside (.ref a.c_beside) A outer s H E) (fun cls d _ H => E cls d H) (defBody s_beside) (u_beside a) :=
 (dss_one (ds_ret (de_fresh (df_callB (cf_sorted hr) mono_sorted (by rfl) t.m_sorted bt_sorted (dr_of (de_fresh (df_lc (by rfl) sc_beside.nd (di_tup (de_var 0 (pv 0))) (blk_by (own := [("one", 2), ("other", 3)]) (by rfl)) (sl := ([2] ++ ([3] ++ []))) (by decide) (fun _ _ _ _ _ => (dg_tup (by rfl) (dgs_cons (dg_name 2 (pg_name sc_beside.nd rfl (by first | exact .inl rfl | exact .inr rfl))) (dgs_cons (dg_name 3 (pg_name sc_beside.nd rfl (by first | exact .inl rfl | exact .inr rfl))) dgs_nil)))) (fun _ _ _ _ _ => (dts_one (dt_cmp (opD_in hr) mono_in (dr_var 1 (pv 1)) (dr_of (de_tup (da_cons (de_var 2 (pv 2)) (da_cons (de_var 3 (pv 3)) da_nil)))) (by rfl)))) (fun _ _ _ _ _ => (de_op opD_sub mono_fI (dr_of (de_op opD_add mono_add (dr_var 2 (pv 2)) (dr_var 3 (pv 3)))) (dr_var 1 (pv 1)))))))))))
theorem mono_beside (t : Tx a K mg base T) (w : World) (s : Shared) {A : Around} (hr : Room (6 + 1) A) : Mono (c_beside a) := mono_cOf (dd_beside (w := w) t A [] s (fun _ => none) (fun _ _ _ => False) (hr.deeper _)).mono
theorem ok_beside (t : Tx a K mg base T) : FnOk PR w K mg base (L2.CX PR w) (6 + 1) a.f_beside a.d_beside ["doors", "room"] (spD T K 2 (c_beside a)) := fn_okD t.f_beside sc_beside fun A outer s H E hr => dd_beside t A outer s H E hr
def u_far_from (a : Ad) : SW :=
 (sSeq (sEx (wCall 2 (c_check_doors a) (wpSh (wVar 0) (wpSh (wVar 1) wpNil))))
 (sSeq (sParN [3, 4, 5] (wbOl (w2 fRep (wLst (wCons (wC .none) wNil)) (wRd 0)) (wbOl (wLst (wCons (wVar 2) wNil)) (wpSh (wC (.int 0)) wpNil))))
 (sSeq (sSetI 3 (wVar 2) (wC (.int 0)))
 (sSeq (sWh (wT (w2 (fC fun i j => decide (i < j)) (wRd 5) (w1 fLen (wRd 4)))) (sSeq (sFor (wItL (wCall 2 (c_beside a) (wpSh (wVar 1) (wpSh (w2 fIx (wRd 4) (wRd 5)) wpNil)))) (gNameD 6)
 (sIf (wT (w2 fIsN (w2 fIx (wRd 3) (wRd 6)) (wC .none))) (sSeq (sSetI 3 (wVar 6) (w2 fAdd (w2 fIx (wRd 3) (w2 fIx (wRd 4) (wRd 5))) (wC (.int 1))))
 (sApp 4 (wVar 6))) sNil))
 (sAug 5 fAddS (wC (.int 1)))))
 (sRet (w1 fTuple (wRd 3)))))))
def c_far_from (a : Ad) : PW := cOf N_far_from (u_far_from a)
theorem dd_far_from (t : Tx a K mg base T) (A : Around) (outer : List Env) (s : Shared) (H : Hp) (E : XK) (hr : Room 10 (A.deeper (envOfC "far_from" (defScope s_far_from) s.heap.objs.size a.f_far_from (.ref a.c_far_from)))) :
  DSs T (cxOf (L2.CX PR w) PR w K mg base N_far_from "far_from" (defScope s_far_from) a.f_far_from (.ref a.c_far_from) A outer s H E) (fun cls d _ H => E cls d H) (defBody s_far_from) (u_far_from a) :=
 (dss_cons (ds_ex (de_call (ok_check_doors t) (mono_check_doors t w s (hr.mono (by decide))) (hr.mono (by decide)) (by rfl) t.g_check_doors t.f_check_doors.kp (bi_check_doors t) (takes_of rfl rfl rfl rfl) (dp_sh (de_var 0 (pv 0)) (dp_sh (de_var 1 (pv 1)) dp_nil))))
 (dss_cons (ds_par3 (i := 3) (j := 4) (l := 5) rfl sc_far_from.nd rfl rfl rfl (by decide) (by decide) (by decide) rfl rfl rfl (db_ol (df_op opF_rep mono_rep (dr_of (de_fresh (df_lst (da_cons de_non da_nil)))) (dr_var 0 (pv 0))) (db_ol (df_lst (da_cons (de_var 2 (pv 2)) da_nil)) (db_sh de_int db_nil))) (by rfl))
 (dss_cons (ds_setI (i := 3) (pv 3) (de_var 2 (pv 2)) de_int)
 (dss_cons (ds_while (passes_of rfl) (dt_cmp opD_ltI mono_fC (dr_var 5 (pv 5)) (dr_of (de_callB cd_len mono_len (by rfl) t.m_len bt_len (dr_var 4 (pv 4)))) (by rfl))
 (dss_cons (ds_for (passes_of rfl) rfl (di_list (de_call (ok_beside t) (mono_beside t w s (hr.mono (by decide))) (hr.mono (by decide)) (by rfl) t.g_beside t.f_beside.kp (bi_beside t) (takes_of rfl rfl rfl rfl) (dp_sh (de_var 1 (pv 1)) (dp_sh (de_ix (dr_var 4 (pv 4)) (dr_var 5 (pv 5))) dp_nil)))) (dg_name 6 (pg_name sc_far_from.nd rfl (by first | exact .inl rfl | exact .inr rfl)))
 (dss_one (ds_if (dt_cmp opD_isN mono_isN (dr_of (de_ix (dr_var 3 (pv 3)) (dr_var 6 (pv 6)))) (dr_of de_non) (by rfl))
 (dss_cons (ds_setI (i := 3) (pv 3) (de_var 6 (pv 6)) (de_op opD_add mono_add (dr_of (de_ix (dr_var 3 (pv 3)) (dr_of (de_ix (dr_var 4 (pv 4)) (dr_var 5 (pv 5)))))) (dr_of de_int)))
 (dss_one (ds_app (i := 4) (pv 4) (de_var 6 (pv 6))))) dss_nil)))
 (dss_one (ds_aug (i := 5) sc_far_from.nd rfl (by first | exact .inl rfl | exact .inr rfl) de_int iopD_addS mono_addS))))
 (dss_one (ds_ret (de_callTy cd_tuple mono_tuple (by rfl) t.m_tuple bt_tuple (dr_var 3 (pv 3)))))))))
theorem mono_far_from (t : Tx a K mg base T) (w : World) (s : Shared) {A : Around} (hr : Room (10 + 1) A) : Mono (c_far_from a) := mono_cOf (dd_far_from (w := w) t A [] s (fun _ => none) (fun _ _ _ => False) (hr.deeper _)).mono
theorem ok_far_from (t : Tx a K mg base T) : FnOk PR w K mg base (L2.CX PR w) (10 + 1) a.f_far_from a.d_far_from ["many", "doors", "start"] (spD T K 3 (c_far_from a)) := fn_okD t.f_far_from sc_far_from fun A outer s H E hr => dd_far_from t A outer s H E hr
def u_first_way (a : Ad) : SW :=
 (sSeq (sSet 4 (wCall 3 (c_far_from a) (wpSh (wVar 0) (wpSh (wVar 1) (wpSh (wVar 3) wpNil)))))
 (sSeq (sIf (wT (w2 fIsN (w2 fIx (wRd 4) (wRd 2)) (wC .none))) (sRaise a.x_NoWay) sNil)
 (sSeq (sOwn 5 (wLst (wCons (wVar 2) wNil)))
 (sSeq (sWh (wT (w2 (fEq true) (w2 fIx (wRd 5) (wNeg (wC (.int 1)))) (wRd 3))) (sApp 5 (w2 fIx (wLc (wItL (wCall 2 (c_beside a) (wpSh (wVar 1) (wpSh (w2 fIx (wRd 5) (wNeg (wC (.int 1)))) wpNil)))) (gNameD 6) (wT (w2 (fEq false) (w2 fIx (wRd 4) (wRd 6)) (w2 (fI CT fun i j => i - j) (w2 fIx (wRd 4) (w2 fIx (wRd 5) (wNeg (wC (.int 1))))) (wC (.int 1))))) (wVar 6) [6]) (wC (.int 0)))))
 (sRet (w1 fTuple (wRd 5)))))))
def c_first_way (a : Ad) : PW := cOf N_first_way (u_first_way a)
theorem dd_first_way (t : Tx a K mg base T) (A : Around) (outer : List Env) (s : Shared) (H : Hp) (E : XK) (hr : Room 12 (A.deeper (envOfC "first_way" (defScope s_first_way) s.heap.objs.size a.f_first_way (.ref a.c_first_way)))) :
  DSs T (cxOf (L2.CX PR w) PR w K mg base N_first_way "first_way" (defScope s_first_way) a.f_first_way (.ref a.c_first_way) A outer s H E) (fun cls d _ H => E cls d H) (defBody s_first_way) (u_first_way a) :=
 (dss_cons (ds_set (i := 4) sc_first_way.nd rfl (by first | exact .inl rfl | exact .inr rfl) (de_call (ok_far_from t) (mono_far_from t w s (hr.mono (by decide))) (hr.mono (by decide)) (by rfl) t.g_far_from t.f_far_from.kp (bi_far_from t) (takes_of rfl rfl rfl rfl) (dp_sh (de_var 0 (pv 0)) (dp_sh (de_var 1 (pv 1)) (dp_sh (de_var 3 (pv 3)) dp_nil)))))
 (dss_cons (ds_if (dt_cmp opD_isN mono_isN (dr_of (de_ix (dr_var 4 (pv 4)) (dr_var 2 (pv 2)))) (dr_of de_non) (by rfl))
 (dss_one (ds_raise rfl (takes_of rfl rfl rfl rfl) (pmk_own PySem.F.excBase_ValueError t.xe_NoWay t.x_NoWay.g t.x_NoWay.kp (raises_own t.x_NoWay.sub t.x_NoWay.ty) rfl))) dss_nil)
 (dss_cons (ds_own (i := 5) sc_first_way.nd rfl (by first | exact .inl rfl | exact .inr rfl) (df_lst (da_cons (de_var 2 (pv 2)) da_nil)))
 (dss_cons (ds_while (passes_of rfl) (dt_cmp (opD_ne hr) mono_eq (dr_of (de_ix (dr_var 5 (pv 5)) (dr_of (de_neg de_int)))) (dr_var 3 (pv 3)) (by rfl))
 (dss_one (ds_app (i := 5) (pv 5) (de_ix (dr_of (de_fresh (df_lc (by rfl) sc_first_way.nd (di_list (de_call (ok_beside t) (mono_beside t w s (hr.mono (by decide))) (hr.mono (by decide)) (by rfl) t.g_beside t.f_beside.kp (bi_beside t) (takes_of rfl rfl rfl rfl) (dp_sh (de_var 1 (pv 1)) (dp_sh (de_ix (dr_var 5 (pv 5)) (dr_of (de_neg de_int))) dp_nil)))) (blk_by (own := [("one", 6)]) (by rfl)) (sl := [6]) (by decide) (fun _ _ _ _ _ => (dg_name 6 (pg_name sc_first_way.nd rfl (by first | exact .inl rfl | exact .inr rfl)))) (fun _ _ _ _ _ => (dts_one (dt_cmp (opD_eq hr) mono_eq (dr_of (de_ix (dr_var 4 (pv 4)) (dr_var 6 (pv 6)))) (dr_of (de_op opD_sub mono_fI (dr_of (de_ix (dr_var 4 (pv 4)) (dr_of (de_ix (dr_var 5 (pv 5)) (dr_of (de_neg de_int)))))) (dr_of de_int))) (by rfl)))) (fun _ _ _ _ _ => (de_var 6 (pv 6)))))) (dr_of de_int)))))
 (dss_one (ds_ret (de_callTy cd_tuple mono_tuple (by rfl) t.m_tuple bt_tuple (dr_var 5 (pv 5)))))))))
theorem mono_first_way (t : Tx a K mg base T) (w : World) (s : Shared) {A : Around} (hr : Room (12 + 1) A) : Mono (c_first_way a) := mono_cOf (dd_first_way (w := w) t A [] s (fun _ => none) (fun _ _ _ => False) (hr.deeper _)).mono
theorem ok_first_way (t : Tx a K mg base T) : FnOk PR w K mg base (L2.CX PR w) (12 + 1) a.f_first_way a.d_first_way ["many", "doors", "start", "goal"] (spD T K 4 (c_first_way a)) := fn_okD t.f_first_way sc_first_way fun A outer s H E hr => dd_first_way t A outer s H E hr
def u_hangs_together (a : Ad) : SW :=
 (sRet (wOrV (w2 (fEq false) (wRd 0) (wC (.int 0))) (w2 (fIn true) (wC .none) (wCall 3 (c_far_from a) (wpSh (wVar 0) (wpSh (wVar 1) (wpSh (wC (.int 0)) wpNil)))))))
def c_hangs_together (a : Ad) : PW := cOf N_hangs_together (u_hangs_together a)
theorem dd_hangs_together (t : Tx a K mg base T) (A : Around) (outer : List Env) (s : Shared) (H : Hp) (E : XK) (hr : Room 12 (A.deeper (envOfC "hangs_together" (defScope s_hangs_together) s.heap.objs.size a.f_hangs_together (.ref a.c_hangs_together)))) :
  DSs T (cxOf (L2.CX PR w) PR w K mg base N_hangs_together "hangs_together" (defScope s_hangs_together) a.f_hangs_together (.ref a.c_hangs_together) A outer s H E) (fun cls d _ H => E cls d H) (defBody s_hangs_together) (u_hangs_together a) :=
 (dss_one (ds_ret (de_or (de_cmp (opD_eq hr) mono_eq (dr_var 0 (pv 0)) (dr_of de_int) (by rfl)) (de_one (de_cmp (opD_notIn hr) mono_in (dr_of de_non) (dr_of (de_call (ok_far_from t) (mono_far_from t w s (hr.mono (by decide))) (hr.mono (by decide)) (by rfl) t.g_far_from t.f_far_from.kp (bi_far_from t) (takes_of rfl rfl rfl rfl) (dp_sh (de_var 0 (pv 0)) (dp_sh (de_var 1 (pv 1)) (dp_sh de_int dp_nil))))) (by rfl))))))
theorem mono_hangs_together (t : Tx a K mg base T) (w : World) (s : Shared) {A : Around} (hr : Room (12 + 1) A) : Mono (c_hangs_together a) := mono_cOf (dd_hangs_together (w := w) t A [] s (fun _ => none) (fun _ _ _ => False) (hr.deeper _)).mono
theorem ok_hangs_together (t : Tx a K mg base T) : FnOk PR w K mg base (L2.CX PR w) (12 + 1) a.f_hangs_together a.d_hangs_together ["many", "doors"] (spD T K 2 (c_hangs_together a)) := fn_okD t.f_hangs_together sc_hangs_together fun A outer s H E hr => dd_hangs_together t A outer s H E hr
def u_shortest_round (a : Ad) : SW :=
 (sSeq (sEx (wCall 2 (c_check_doors a) (wpSh (wVar 0) (wpSh (wVar 1) wpNil))))
 (sSeq (sIf (wT (w2 (fC fun i j => decide (j < i)) (wRd 0) (wC (.int 9)))) (sRaise a.x_TooLarge) sNil)
 (sSeq (sIf (wNot (wT (wCall 2 (c_hangs_together a) (wpSh (wVar 0) (wpSh (wVar 1) wpNil))))) (sRaise a.x_NoWay) sNil)
 (sSeq (sSet 3 (wLc (wRng1 (wCons (wVar 0) wNil)) (gNameD 9) wYes (wCall 3 (c_far_from a) (wpSh (wVar 0) (wpSh (wVar 1) (wpSh (wVar 9) wpNil)))) [9]))
 (sSeq (sN1 4 (wTup (wCons (wTup (wCons (wVar 2) wNil)) (wCons (wVar 2) wNil))) (wC (.int 0)))
 (sSeq (sFor (wRng1 (wCons (w2 (fI CT fun i j => i - j) (wRd 0) (wC (.int 1))) wNil)) (gNameD 5)
 (sSeq (sN0 6)
 (sFrzN 4 (sSeq (sFor (wItN 4) (gTupD 2 (gConsD (gNameD 7) (gConsD (gNameD 8) gNilD)))
 (sFor (wRng1 (wCons (wVar 0) wNil)) (gNameD 9)
 (sIf (wT (w2 (fIn true) (wRd 9) (wRd 7))) (sSeq (sSet 10 (wTup (wCons (w1 fTuple (w1 fSortedT (w2 fAdd (wRd 7) (wTup (wCons (wVar 9) wNil))))) (wCons (wVar 9) wNil))))
 (sSeq (sSet 11 (w2 fAdd (wNIx 4 (wTup (wCons (wVar 7) (wCons (wVar 8) wNil)))) (w2 fIx (w2 fIx (wRd 3) (wRd 8)) (wRd 9))))
 (sIf (wOr (wT (wNIn true 6 (wVar 10))) (wT (w2 (fC fun i j => decide (i < j)) (wRd 11) (wNIx 6 (wVar 10))))) (sNPut 6 (wVar 10) (wVar 11)) sNil))) sNil)))
 (sFrzN 6 (sCpN 4 6))))))
 (sFrzN 4 (sRet (w1 fMin (wLc (wItN 4) (gTupD 2 (gConsD (gNameD 7) (gConsD (gNameD 8) gNilD))) wYes (w2 fAdd (wNIx 4 (wTup (wCons (wVar 7) (wCons (wVar 8) wNil)))) (w2 fIx (w2 fIx (wRd 3) (wRd 8)) (wRd 2))) [7, 8]))))))))))
def c_shortest_round (a : Ad) : PW := cOf N_shortest_round (u_shortest_round a)
theorem dd_shortest_round (t : Tx a K mg base T) (A : Around) (outer : List Env) (s : Shared) (H : Hp) (E : XK) (hr : Room 14 (A.deeper (envOfC "shortest_round" (defScope s_shortest_round) s.heap.objs.size a.f_shortest_round (.ref a.c_shortest_round)))) :
  DSs T (cxOf (L2.CX PR w) PR w K mg base N_shortest_round "shortest_round" (defScope s_shortest_round) a.f_shortest_round (.ref a.c_shortest_round) A outer s H E) (fun cls d _ H => E cls d H) (defBody s_shortest_round) (u_shortest_round a) :=
 (dss_cons (ds_ex (de_call (ok_check_doors t) (mono_check_doors t w s (hr.mono (by decide))) (hr.mono (by decide)) (by rfl) t.g_check_doors t.f_check_doors.kp (bi_check_doors t) (takes_of rfl rfl rfl rfl) (dp_sh (de_var 0 (pv 0)) (dp_sh (de_var 1 (pv 1)) dp_nil))))
 (dss_cons (ds_if (dt_cmp opD_gtI mono_fC (dr_var 0 (pv 0)) (dr_of de_int) (by rfl))
 (dss_one (ds_raise rfl (takes_of rfl rfl rfl rfl) (pmk_own PySem.F.excBase_ValueError t.xe_TooLarge t.x_TooLarge.g t.x_TooLarge.kp (raises_own t.x_TooLarge.sub t.x_TooLarge.ty) rfl))) dss_nil)
 (dss_cons (ds_if (dt_not (dt_val (de_call (ok_hangs_together t) (mono_hangs_together t w s (hr.mono (by decide))) (hr.mono (by decide)) (by rfl) t.g_hangs_together t.f_hangs_together.kp (bi_hangs_together t) (takes_of rfl rfl rfl rfl) (dp_sh (de_var 0 (pv 0)) (dp_sh (de_var 1 (pv 1)) dp_nil)))))
 (dss_one (ds_raise rfl (takes_of rfl rfl rfl rfl) (pmk_own PySem.F.excBase_ValueError t.xe_NoWay t.x_NoWay.g t.x_NoWay.kp (raises_own t.x_NoWay.sub t.x_NoWay.ty) rfl))) dss_nil)
 (dss_cons (ds_set (i := 3) sc_shortest_round.nd rfl (by first | exact .inl rfl | exact .inr rfl) (de_fresh (df_lc (by rfl) sc_shortest_round.nd (di_range1 (by rfl) t.m_range (da_cons (de_var 0 (pv 0)) da_nil)) (blk_by (own := [("room", 9)]) (by rfl)) (sl := [9]) (by decide) (fun _ _ _ _ _ => (dg_name 9 (pg_name sc_shortest_round.nd rfl (by first | exact .inl rfl | exact .inr rfl)))) (fun _ _ _ _ _ => dts_nil) (fun _ _ _ _ _ => (de_call (ok_far_from t) (mono_far_from t w s (hr.mono (by decide))) (hr.mono (by decide)) (by rfl) t.g_far_from t.f_far_from.kp (bi_far_from t) L2.takes0 (dp_sh (de_var 0 (pv 0)) (dp_sh (de_var 1 (pv 1)) (dp_sh (de_var 9 (pv 9)) dp_nil))))))))
 (dss_cons (ds_n1 (i := 4) hr sc_shortest_round.nd rfl (by first | exact .inl rfl | exact .inr rfl) (de_tup (da_cons (de_tup (da_cons (de_var 2 (pv 2)) da_nil)) (da_cons (de_var 2 (pv 2)) da_nil))) de_int)
 (dss_cons (ds_for (passes_of rfl) rfl (di_range1 (by rfl) t.m_range (da_cons (de_op opD_sub mono_fI (dr_var 0 (pv 0)) (dr_of de_int)) da_nil)) (dg_name 5 (pg_name sc_shortest_round.nd rfl (by first | exact .inl rfl | exact .inr rfl)))
 (dss_cons (ds_n0 (i := 6) sc_shortest_round.nd rfl (by first | exact .inl rfl | exact .inr rfl))
 (dss_frzN 4 (dss_cons (ds_for (passes_of rfl) rfl (di_keysN (i := 4) (pv 4)) (dg_tup (by rfl) (dgs_cons (dg_name 7 (pg_name sc_shortest_round.nd rfl (by first | exact .inl rfl | exact .inr rfl))) (dgs_cons (dg_name 8 (pg_name sc_shortest_round.nd rfl (by first | exact .inl rfl | exact .inr rfl))) dgs_nil)))
 (dss_one (ds_for (passes_of rfl) rfl (di_range1 (by rfl) t.m_range (da_cons (de_var 0 (pv 0)) da_nil)) (dg_name 9 (pg_name sc_shortest_round.nd rfl (by first | exact .inl rfl | exact .inr rfl)))
 (dss_one (ds_if (dt_cmp (opD_notIn hr) mono_in (dr_var 9 (pv 9)) (dr_var 7 (pv 7)) (by rfl))
 (dss_cons (ds_set (i := 10) sc_shortest_round.nd rfl (by first | exact .inl rfl | exact .inr rfl) (de_tup (da_cons (de_callTy cd_tuple mono_tuple (by rfl) t.m_tuple bt_tuple (dr_of (de_fresh (df_callB (cf_sortedT hr) mono_sortedT (by rfl) t.m_sorted bt_sorted (dr_of (de_op opD_add mono_add (dr_var 7 (pv 7)) (dr_of (de_tup (da_cons (de_var 9 (pv 9)) da_nil))))))))) (da_cons (de_var 9 (pv 9)) da_nil))))
 (dss_cons (ds_set (i := 11) sc_shortest_round.nd rfl (by first | exact .inl rfl | exact .inr rfl) (de_op opD_add mono_add (dr_of (de_nix (i := 4) hr (pv 4) (de_tup (da_cons (de_var 7 (pv 7)) (da_cons (de_var 8 (pv 8)) da_nil))) (fun _ _ => rfl))) (dr_of (de_ix (dr_of (de_ix (dr_var 3 (pv 3)) (dr_var 8 (pv 8)))) (dr_var 9 (pv 9))))))
 (dss_one (ds_if (dt_bool (dw_or (dt_nnin (i := 6) hr (pv 6) (de_var 10 (pv 10)) (by rfl)) (dw_or1 (dt_cmp opD_ltI mono_fC (dr_var 11 (pv 11)) (dr_of (de_nix (i := 6) hr (pv 6) (de_var 10 (pv 10)) (fun _ _ => rfl))) (by rfl)))))
 (dss_one (ds_nput (i := 6) hr (pv 6) (de_var 10 (pv 10)) (de_var 11 (pv 11)))) dss_nil)))) dss_nil)))))
 (dss_frzN 6 (dss_one (ds_cpN (i := 4) (j := 6) sc_shortest_round.nd rfl (by first | exact .inl rfl | exact .inr rfl) (pv 6))))))))
 (dss_frzN 4 (dss_one (ds_ret (de_callB (cd_min hr) mono_min (by rfl) t.m_min bt_min (dr_of (de_fresh (df_lc (by rfl) sc_shortest_round.nd (di_keysN (i := 4) (pv 4)) (blk_by (own := [("held", 7), ("last", 8)]) (by rfl)) (sl := ([7] ++ ([8] ++ []))) (by decide) (fun _ _ _ _ _ => (dg_tup (by rfl) (dgs_cons (dg_name 7 (pg_name sc_shortest_round.nd rfl (by first | exact .inl rfl | exact .inr rfl))) (dgs_cons (dg_name 8 (pg_name sc_shortest_round.nd rfl (by first | exact .inl rfl | exact .inr rfl))) dgs_nil)))) (fun _ _ _ _ _ => dts_nil) (fun _ _ _ _ _ => (de_op opD_add mono_add (dr_of (de_nix (i := 4) hr (pv 4) (de_tup (da_cons (de_var 7 (pv 7)) (da_cons (de_var 8 (pv 8)) da_nil))) (fun _ _ => rfl))) (dr_of (de_ix (dr_of (de_ix (dr_var 3 (pv 3)) (dr_var 8 (pv 8)))) (dr_var 2 (pv 2)))))))))))))))))))
theorem mono_shortest_round (t : Tx a K mg base T) (w : World) (s : Shared) {A : Around} (hr : Room (14 + 1) A) : Mono (c_shortest_round a) := mono_cOf (dd_shortest_round (w := w) t A [] s (fun _ => none) (fun _ _ _ => False) (hr.deeper _)).mono
theorem ok_shortest_round (t : Tx a K mg base T) : FnOk PR w K mg base (L2.CX PR w) (14 + 1) a.f_shortest_round a.d_shortest_round ["many", "doors", "start"] (spD T K 3 (c_shortest_round a)) := fn_okD t.f_shortest_round sc_shortest_round fun A outer s H E hr => dd_shortest_round t A outer s H E hr
def u_look_signs (a : Ad) : SW :=
 (sSeq (sIf (wT (w2 (fEq true) (w1 fSorted (wLc (wItT (wVar 2)) (gNameD 8) wYes (wTup (wCons (w1 fMin (wRd 8)) (wCons (w1 fMax (wRd 8)) wNil))) [8])) (w1 fList (wRd 1)))) (sRaiseF a.x_BadPaper "part" (wC (.int 0))) sNil)
 (sFor (wRng1 (wCons (wVar 0) wNil)) (gNameD 3)
 (sFor (wItT (wTup (wCons (wVar 2) (wCons (w1 fTuple (wLc (wItT (wVar 2)) (gTupD 2 (gConsD (gNameD 9) (gConsD (gNameD 10) gNilD))) wYes (wTup (wCons (wVar 10) (wCons (wVar 9) wNil))) [9, 10])) wNil)))) (gNameD 4)
 (sSeq (sParN [5, 6] (wbDk (wbOl (wLst (wCons (wC (.int 0)) wNil)) wpNil)))
 (sSeq (sWh (wT (w2 (fEq true) (wRd 6) (wLst wNil))) (sSeq (sPop 7 6)
 (sIf (wT (wDIn true 5 (wVar 7))) (sSeq (sPut 5 (wVar 7) (wC (.bool true)))
 (sExt 6 (wLc (wItT (wVar 4)) (gTupD 2 (gConsD (gNameD 9) (gConsD (gNameD 10) gNilD))) (wT (w2 (fEq false) (wRd 9) (wRd 7))) (wVar 10) [9, 10]))) sNil)))
 (sIf (wT (wDIn true 5 (wVar 3))) (sRaiseF a.x_BadPaper "part" (wVar 3)) sNil))))))
def c_look_signs (a : Ad) : PW := cOf N_look_signs (u_look_signs a)
theorem dd_look_signs (t : Tx a K mg base T) (A : Around) (outer : List Env) (s : Shared) (H : Hp) (E : XK) (hr : Room 14 (A.deeper (envOfC "look_signs" (defScope s_look_signs) s.heap.objs.size a.f_look_signs (.ref a.c_look_signs)))) :
  DSs T (cxOf (L2.CX PR w) PR w K mg base N_look_signs "look_signs" (defScope s_look_signs) a.f_look_signs (.ref a.c_look_signs) A outer s H E) (fun cls d _ H => E cls d H) (defBody s_look_signs) (u_look_signs a) :=
 (dss_cons (ds_if (dt_cmp (opD_ne hr) mono_eq (dr_of (de_fresh (df_callB (cf_sorted hr) mono_sorted (by rfl) t.m_sorted bt_sorted (dr_of (de_fresh (df_lc (by rfl) sc_look_signs.nd (di_tup (de_var 2 (pv 2))) (blk_by (own := [("pair", 8)]) (by rfl)) (sl := [8]) (by decide) (fun _ _ _ _ _ => (dg_name 8 (pg_name sc_look_signs.nd rfl (by first | exact .inl rfl | exact .inr rfl)))) (fun _ _ _ _ _ => dts_nil) (fun _ _ _ _ _ => (de_tup (da_cons (de_callB (cd_min hr) mono_min (by rfl) t.m_min bt_min (dr_var 8 (pv 8))) (da_cons (de_callB (cd_max hr) mono_max (by rfl) t.m_max bt_max (dr_var 8 (pv 8))) da_nil)))))))))) (dr_of (de_fresh (df_callTy cf_list mono_list (by rfl) t.m_list bt_list (dr_var 1 (pv 1))))) (by rfl))
 (dss_one (ds_raiseF (k := 1) rfl (takes_of rfl rfl rfl rfl) t.s_BadPaper.T (ini_BadPaper t) t.ic_BadPaper t.ti_BadPaper (hr.mono (by decide)) (bini_BadPaper t) (by rfl) t.x_BadPaper.g de_int)) dss_nil)
 (dss_one (ds_for (passes_of rfl) rfl (di_range1 (by rfl) t.m_range (da_cons (de_var 0 (pv 0)) da_nil)) (dg_name 3 (pg_name sc_look_signs.nd rfl (by first | exact .inl rfl | exact .inr rfl)))
 (dss_one (ds_for (passes_of rfl) rfl (di_tup (de_tup (da_cons (de_var 2 (pv 2)) (da_cons (de_callTy cd_tuple mono_tuple (by rfl) t.m_tuple bt_tuple (dr_of (de_fresh (df_lc (by rfl) sc_look_signs.nd (di_tup (de_var 2 (pv 2))) (blk_by (own := [("one", 9), ("two", 10)]) (by rfl)) (sl := ([9] ++ ([10] ++ []))) (by decide) (fun _ _ _ _ _ => (dg_tup (by rfl) (dgs_cons (dg_name 9 (pg_name sc_look_signs.nd rfl (by first | exact .inl rfl | exact .inr rfl))) (dgs_cons (dg_name 10 (pg_name sc_look_signs.nd rfl (by first | exact .inl rfl | exact .inr rfl))) dgs_nil)))) (fun _ _ _ _ _ => dts_nil) (fun _ _ _ _ _ => (de_tup (da_cons (de_var 10 (pv 10)) (da_cons (de_var 9 (pv 9)) da_nil)))))))) da_nil)))) (dg_name 4 (pg_name sc_look_signs.nd rfl (by first | exact .inl rfl | exact .inr rfl)))
 (dss_cons (ds_par2 (i := 5) (j := 6) rfl sc_look_signs.nd rfl rfl (by decide) rfl rfl (db_dk (db_ol (df_lst (da_cons de_int da_nil)) db_nil)) (by rfl))
 (dss_cons (ds_while (passes_of rfl) (dt_cmp (opD_ne hr) mono_eq (dr_var 6 (pv 6)) (dr_of (de_fresh (df_lst da_nil))) (by rfl))
 (dss_cons (ds_pop (i := 7) (j := 6) sc_look_signs.nd rfl (by first | exact .inl rfl | exact .inr rfl) (pv 6))
 (dss_one (ds_if (dt_dcnin (i := 5) hr (pv 5) (de_var 7 (pv 7)) (by rfl))
 (dss_cons (ds_put (i := 5) hr (pv 5) (de_var 7 (pv 7)) de_bl)
 (dss_one (ds_ext (i := 6) (pv 6) (de_fresh (df_lc (by rfl) sc_look_signs.nd (di_tup (de_var 4 (pv 4))) (blk_by (own := [("one", 9), ("two", 10)]) (by rfl)) (sl := ([9] ++ ([10] ++ []))) (by decide) (fun _ _ _ _ _ => (dg_tup (by rfl) (dgs_cons (dg_name 9 (pg_name sc_look_signs.nd rfl (by first | exact .inl rfl | exact .inr rfl))) (dgs_cons (dg_name 10 (pg_name sc_look_signs.nd rfl (by first | exact .inl rfl | exact .inr rfl))) dgs_nil)))) (fun _ _ _ _ _ => (dts_one (dt_cmp (opD_eq hr) mono_eq (dr_var 9 (pv 9)) (dr_var 7 (pv 7)) (by rfl)))) (fun _ _ _ _ _ => (de_var 10 (pv 10)))))))) dss_nil))))
 (dss_one (ds_if (dt_dcnin (i := 5) hr (pv 5) (de_var 3 (pv 3)) (by rfl))
 (dss_one (ds_raiseF (k := 1) rfl (takes_of rfl rfl rfl rfl) t.s_BadPaper.T (ini_BadPaper t) t.ic_BadPaper t.ti_BadPaper (hr.mono (by decide)) (bini_BadPaper t) (by rfl) t.x_BadPaper.g (de_var 3 (pv 3)))) dss_nil)))))))))
theorem mono_look_signs (t : Tx a K mg base T) (w : World) (s : Shared) {A : Around} (hr : Room (14 + 1) A) : Mono (c_look_signs a) := mono_cOf (dd_look_signs (w := w) t A [] s (fun _ => none) (fun _ _ _ => False) (hr.deeper _)).mono
theorem ok_look_signs (t : Tx a K mg base T) : FnOk PR w K mg base (L2.CX PR w) (14 + 1) a.f_look_signs a.d_look_signs ["many", "doors", "told"] (spD T K 3 (c_look_signs a)) := fn_okD t.f_look_signs sc_look_signs fun A outer s H E hr => dd_look_signs t A outer s H E hr
def u_three (a : Ad) : SW :=
 (sSeq (sSet 1 (w1 fStrI (wRd 0)))
 (sRet (w2 fAdd (w2 fMul (wC (.str "0")) (w2 (fI CT fun i j => i - j) (wC (.int 3)) (w1 fLen (wRd 1)))) (wRd 1))))
def c_three (a : Ad) : PW := cOf N_three (u_three a)
theorem dd_three (t : Tx a K mg base T) (A : Around) (outer : List Env) (s : Shared) (H : Hp) (E : XK) (hr : Room 8 (A.deeper (envOfC "three" (defScope s_three) s.heap.objs.size a.f_three (.ref a.c_three)))) :
  DSs T (cxOf (L2.CX PR w) PR w K mg base N_three "three" (defScope s_three) a.f_three (.ref a.c_three) A outer s H E) (fun cls d _ H => E cls d H) (defBody s_three) (u_three a) :=
 (dss_cons (ds_set (i := 1) sc_three.nd rfl (by first | exact .inl rfl | exact .inr rfl) (de_callTy cd_strI mono_strI (by rfl) t.m_str bt_str (dr_var 0 (pv 0))))
 (dss_one (ds_ret (de_op opD_add mono_add (dr_of (de_op opD_mul mono_mul (dr_of de_str) (dr_of (de_op opD_sub mono_fI (dr_of de_int) (dr_of (de_callB cd_len mono_len (by rfl) t.m_len bt_len (dr_var 1 (pv 1)))))))) (dr_var 1 (pv 1))))))
theorem mono_three (t : Tx a K mg base T) (w : World) (s : Shared) {A : Around} (hr : Room (8 + 1) A) : Mono (c_three a) := mono_cOf (dd_three (w := w) t A [] s (fun _ => none) (fun _ _ _ => False) (hr.deeper _)).mono
theorem ok_three (t : Tx a K mg base T) : FnOk PR w K mg base (L2.CX PR w) (8 + 1) a.f_three a.d_three ["number"] (spD T K 1 (c_three a)) := fn_okD t.f_three sc_three fun A outer s H E hr => dd_three t A outer s H E hr
def u_check_of (a : Ad) : SW :=
 (sSeq (sSet 3 (w2 fAdd (w2 fAdd (w1 fStrI (wRd 0)) (wCall 1 (c_three a) (wpSh (wVar 1) wpNil))) (wCall 1 (c_three a) (wpSh (wVar 2) wpNil))))
 (sSeq (sSet 4 (wGen PyData.int (wItES (wVar 3)) (gTupD 2 (gConsD (gNameD 5) (gConsD (gNameD 6) gNilD))) wYes (w2 fMul (w2 fAdd (wRd 5) (wC (.int 2))) (w1 fIntT (wRd 6))) [5, 6] rSumD))
 (sRet (w2 fIx (wC (.str "ABCDEFGHJKLMNPQRSTUVWXY")) (w2 (fI (fun _ j => 0 < j) fun i j => i % j) (wRd 4) (wC (.int 23)))))))
def c_check_of (a : Ad) : PW := cOf N_check_of (u_check_of a)
theorem dd_check_of (t : Tx a K mg base T) (A : Around) (outer : List Env) (s : Shared) (H : Hp) (E : XK) (hr : Room 12 (A.deeper (envOfC "check_of" (defScope s_check_of) s.heap.objs.size a.f_check_of (.ref a.c_check_of)))) :
  DSs T (cxOf (L2.CX PR w) PR w K mg base N_check_of "check_of" (defScope s_check_of) a.f_check_of (.ref a.c_check_of) A outer s H E) (fun cls d _ H => E cls d H) (defBody s_check_of) (u_check_of a) :=
 (dss_cons (ds_set (i := 3) sc_check_of.nd rfl (by first | exact .inl rfl | exact .inr rfl) (de_op opD_add mono_add (dr_of (de_op opD_add mono_add (dr_of (de_callTy cd_strI mono_strI (by rfl) t.m_str bt_str (dr_var 0 (pv 0)))) (dr_of (de_call (ok_three t) (mono_three t w s (hr.mono (by decide))) (hr.mono (by decide)) (by rfl) t.g_three t.f_three.kp (bi_three t) (takes_of rfl rfl rfl rfl) (dp_sh (de_var 1 (pv 1)) dp_nil))))) (dr_of (de_call (ok_three t) (mono_three t w s (hr.mono (by decide))) (hr.mono (by decide)) (by rfl) t.g_three t.f_three.kp (bi_three t) (takes_of rfl rfl rfl rfl) (dp_sh (de_var 2 (pv 2)) dp_nil)))))
 (dss_cons (ds_set (i := 4) sc_check_of.nd rfl (by first | exact .inl rfl | exact .inr rfl) (de_gen (toD := PyData.int) (toV := V.int) (R := rSumD) (vR := (fun l => .int l.sum)) 0 hTI (fun _ _ _ => .int _) (k := 11) hrr_sum (GxI.gx_sum hr) (by rfl) t.m_sum hr (by rfl) sc_check_of.nd (.of t.t_check_of) t.tm_check_of t.tn_check_of (by rfl) ⟨by rfl, nocell_by (by rfl), by rfl⟩ (blk_by (own := [("k", 5), ("sign", 6)]) (by rfl)) (sl := ([5] ++ ([6] ++ []))) (by decide) (di_enumS (by rfl) t.m_enumerate (de_var 3 (pv 3))) (fun _ _ _ _ _ _ _ => (dg_tup (by rfl) (dgs_cons (dg_name 5 (pg_name sc_check_of.nd rfl (by first | exact .inl rfl | exact .inr rfl))) (dgs_cons (dg_name 6 (pg_name sc_check_of.nd rfl (by first | exact .inl rfl | exact .inr rfl))) dgs_nil)))) (fun _ _ _ _ _ _ _ hR => dts_nil) (fun _ _ _ _ _ _ _ hR => (de_op opD_mul mono_mul (dr_of (de_op opD_add mono_add (dr_var 5 (pv 5)) (dr_of de_int))) (dr_of (de_callTy cd_intT mono_intT (by rfl) t.m_int bt_int (dr_var 6 (pv 6))))))))
 (dss_one (ds_ret (de_ix (dr_of de_str) (dr_of (de_op opD_mod mono_fI (dr_var 4 (pv 4)) (dr_of de_int))))))))
theorem mono_check_of (t : Tx a K mg base T) (w : World) (s : Shared) {A : Around} (hr : Room (12 + 1) A) : Mono (c_check_of a) := mono_cOf (dd_check_of (w := w) t A [] s (fun _ => none) (fun _ _ _ => False) (hr.deeper _)).mono
theorem ok_check_of (t : Tx a K mg base T) : FnOk PR w K mg base (L2.CX PR w) (12 + 1) a.f_check_of a.d_check_of ["year", "lot", "item"] (spD T K 3 (c_check_of a)) := fn_okD t.f_check_of sc_check_of fun A outer s H E hr => dd_check_of t A outer s H E hr
def u_is_thing (a : Ad) : SW :=
 (sSeq (sIf (wOr (wNot (wT (wIsi "tuple" (wVar 0)))) (wT (w2 (fEq true) (w1 fLen (wRd 0)) (wC (.int 3))))) (sRet (wC (.bool false))) sNil)
 (sSeq (sIf (wNot (wT (wGen PyData.bool (wItT (wVar 0)) (gNameD 4) wYes (wAndV (wIsi "int" (wVar 4)) (wNotV (wIsi "bool" (wVar 4)))) [4] rAllD))) (sRet (wC (.bool false))) sNil)
 (sSeq (sAsg (wVar 0) (gTupD 3 (gConsD (gNameD 1) (gConsD (gNameD 2) (gConsD (gNameD 3) gNilD)))))
 (sRet (wAndV (wCh (fC fun i j => decide (i ≤ j)) (fC fun i j => decide (i ≤ j)) (wC (.int 1800)) (wVar 1) (wC (.int 2199))) (wAndV (wCh (fC fun i j => decide (i ≤ j)) (fC fun i j => decide (i ≤ j)) (wC (.int 0)) (wVar 2) (wC (.int 999))) (wCh (fC fun i j => decide (i ≤ j)) (fC fun i j => decide (i ≤ j)) (wC (.int 0)) (wVar 3) (wC (.int 999)))))))))
def c_is_thing (a : Ad) : PW := cOf N_is_thing (u_is_thing a)
theorem dd_is_thing (t : Tx a K mg base T) (A : Around) (outer : List Env) (s : Shared) (H : Hp) (E : XK) (hr : Room 10 (A.deeper (envOfC "is_thing" (defScope s_is_thing) s.heap.objs.size a.f_is_thing (.ref a.c_is_thing)))) :
  DSs T (cxOf (L2.CX PR w) PR w K mg base N_is_thing "is_thing" (defScope s_is_thing) a.f_is_thing (.ref a.c_is_thing) A outer s H E) (fun cls d _ H => E cls d H) (defBody s_is_thing) (u_is_thing a) :=
 (dss_cons (ds_if (dt_bool (dw_or (dt_not (dt_val (de_isi kit_tuple bt_tuple (by rfl) t.m_isinstance (by rfl) t.m_tuple (de_var 0 (pv 0))))) (dw_or1 (dt_cmp (opD_ne hr) mono_eq (dr_of (de_callB cd_len mono_len (by rfl) t.m_len bt_len (dr_var 0 (pv 0)))) (dr_of de_int) (by rfl)))))
 (dss_one (ds_ret de_bl)) dss_nil)
 (dss_cons (ds_if (dt_not (dt_val (de_gen (toD := PyData.bool) (toV := V.bl) (R := rAllD) (vR := (fun l => .bl (l.all id))) false hTB (fun _ _ _ => .bl _) (k := 9) hrr_all (GxI.gx_all hr) (by rfl) t.m_all hr (by rfl) sc_is_thing.nd (.of t.t_is_thing) t.tm_is_thing t.tn_is_thing (by rfl) ⟨by rfl, nocell_by (by rfl), by rfl⟩ (blk_by (own := [("one", 4)]) (by rfl)) (sl := [4]) (by decide) (di_tup (de_var 0 (pv 0))) (fun _ _ _ _ _ _ _ => (dg_name 4 (pg_name sc_is_thing.nd rfl (by first | exact .inl rfl | exact .inr rfl)))) (fun _ _ _ _ _ _ _ hR => dts_nil) (fun _ _ _ _ _ _ _ hR => (de_and (de_isi kit_int bt_int (by rfl) t.m_isinstance (by rfl) t.m_int (de_var 4 (pv 4))) (de_one (de_not (de_isi kit_bool bt_bool (by rfl) t.m_isinstance (by rfl) t.m_bool (de_var 4 (pv 4))))))))))
 (dss_one (ds_ret de_bl)) dss_nil)
 (dss_cons (ds_asg (de_var 0 (pv 0)) (dg_tup (by rfl) (dgs_cons (dg_name 1 (pg_name sc_is_thing.nd rfl (by first | exact .inl rfl | exact .inr rfl))) (dgs_cons (dg_name 2 (pg_name sc_is_thing.nd rfl (by first | exact .inl rfl | exact .inr rfl))) (dgs_cons (dg_name 3 (pg_name sc_is_thing.nd rfl (by first | exact .inl rfl | exact .inr rfl))) dgs_nil)))))
 (dss_one (ds_ret (de_and (de_chain opD_leI opD_leI mono_fC mono_fC de_int (de_var 1 (pv 1)) de_int) (de_and (de_chain opD_leI opD_leI mono_fC mono_fC de_int (de_var 2 (pv 2)) de_int) (de_one (de_chain opD_leI opD_leI mono_fC mono_fC de_int (de_var 3 (pv 3)) de_int)))))))))
theorem mono_is_thing (t : Tx a K mg base T) (w : World) (s : Shared) {A : Around} (hr : Room (10 + 1) A) : Mono (c_is_thing a) := mono_cOf (dd_is_thing (w := w) t A [] s (fun _ => none) (fun _ _ _ => False) (hr.deeper _)).mono
theorem ok_is_thing (t : Tx a K mg base T) : FnOk PR w K mg base (L2.CX PR w) (10 + 1) a.f_is_thing a.d_is_thing ["thing"] (spD T K 1 (c_is_thing a)) := fn_okD t.f_is_thing sc_is_thing fun A outer s H E hr => dd_is_thing t A outer s H E hr
def u_read (a : Ad) : SW :=
 (sSeq (sSet 1 (wC (.str "FFFF.FFF.FFF-C")))
 (sSeq (sIf (wNot (wT (wIsi "str" (wVar 0)))) (sRaiseF a.x_BadNumber "place" (wC (.int 0))) sNil)
 (sSeq (sFor (wItES (wVar 1)) (gTupD 2 (gConsD (gNameD 2) (gConsD (gNameD 3) gNilD)))
 (sSeq (sIf (wT (w2 (fC fun i j => decide (j ≤ i)) (wRd 2) (w1 fLen (wRd 0)))) (sRaiseF a.x_BadNumber "place" (w1 fLen (wRd 0))) sNil)
 (sSeq (sSet 4 (w2 fIx (wRd 0) (wRd 2)))
 (sIf (wOr (wAnd (wT (w2 (fEq false) (wRd 3) (wC (.str "F")))) (wT (w2 (fIn true) (wRd 4) (wC (.str "0123456789"))))) (wAnd (wT (w2 (fIn false) (wRd 3) (wC (.str ".-")))) (wT (w2 (fEq true) (wRd 4) (wRd 3))))) (sRaiseF a.x_BadNumber "place" (wVar 2)) sNil))))
 (sSeq (sIf (wT (w2 (fC fun i j => decide (j < i)) (w1 fLen (wRd 0)) (w1 fLen (wRd 1)))) (sRaiseF a.x_BadNumber "place" (w1 fLen (wRd 1))) sNil)
 (sSeq (sSet 5 (wTup (wCons (w1 fIntT (wSl fSlS (wRd 0) wNo (wSo (wC (.int 4))))) (wCons (w1 fIntT (wSl fSlS (wRd 0) (wSo (wC (.int 5))) (wSo (wC (.int 8))))) (wCons (w1 fIntT (wSl fSlS (wRd 0) (wSo (wC (.int 9))) (wSo (wC (.int 12))))) wNil)))))
 (sSeq (sIf (wNot (wT (wCall 1 (c_is_thing a) (wpSh (wVar 5) wpNil)))) (sRaiseF a.x_BadNumber "place" (wC (.int 0))) sNil)
 (sSeq (sIf (wT (w2 (fEq true) (w2 fIx (wRd 0) (wC (.int 13))) (wCall 3 (c_check_of a) (wpSh (w2 fIx (wRd 5) (wC (.int 0))) (wpSh (w2 fIx (wRd 5) (wC (.int 1))) (wpSh (w2 fIx (wRd 5) (wC (.int 2))) wpNil)))))) (sRaiseF a.x_BadNumber "place" (wC (.int 13))) sNil)
 (sRet (wVar 5)))))))))
def c_read (a : Ad) : PW := cOf N_read (u_read a)
theorem dd_read (t : Tx a K mg base T) (A : Around) (outer : List Env) (s : Shared) (H : Hp) (E : XK) (hr : Room 16 (A.deeper (envOfC "read" (defScope s_read) s.heap.objs.size a.f_read (.ref a.c_read)))) :
  DSs T (cxOf (L2.CX PR w) PR w K mg base N_read "read" (defScope s_read) a.f_read (.ref a.c_read) A outer s H E) (fun cls d _ H => E cls d H) (defBody s_read) (u_read a) :=
 (dss_cons (ds_set (i := 1) sc_read.nd rfl (by first | exact .inl rfl | exact .inr rfl) de_str)
 (dss_cons (ds_if (dt_not (dt_val (de_isi kit_str bt_str (by rfl) t.m_isinstance (by rfl) t.m_str (de_var 0 (pv 0)))))
 (dss_one (ds_raiseF (k := 1) rfl (takes_of rfl rfl rfl rfl) t.s_BadNumber.T (ini_BadNumber t) t.ic_BadNumber t.ti_BadNumber (hr.mono (by decide)) (bini_BadNumber t) (by rfl) t.x_BadNumber.g de_int)) dss_nil)
 (dss_cons (ds_for (passes_of rfl) rfl (di_enumS (by rfl) t.m_enumerate (de_var 1 (pv 1))) (dg_tup (by rfl) (dgs_cons (dg_name 2 (pg_name sc_read.nd rfl (by first | exact .inl rfl | exact .inr rfl))) (dgs_cons (dg_name 3 (pg_name sc_read.nd rfl (by first | exact .inl rfl | exact .inr rfl))) dgs_nil)))
 (dss_cons (ds_if (dt_cmp opD_geI mono_fC (dr_var 2 (pv 2)) (dr_of (de_callB cd_len mono_len (by rfl) t.m_len bt_len (dr_var 0 (pv 0)))) (by rfl))
 (dss_one (ds_raiseF (k := 1) rfl (takes_of rfl rfl rfl rfl) t.s_BadNumber.T (ini_BadNumber t) t.ic_BadNumber t.ti_BadNumber (hr.mono (by decide)) (bini_BadNumber t) (by rfl) t.x_BadNumber.g (de_callB cd_len mono_len (by rfl) t.m_len bt_len (dr_var 0 (pv 0))))) dss_nil)
 (dss_cons (ds_set (i := 4) sc_read.nd rfl (by first | exact .inl rfl | exact .inr rfl) (de_ix (dr_var 0 (pv 0)) (dr_var 2 (pv 2))))
 (dss_one (ds_if (dt_bool (dw_or (dt_bool (dw_and (dt_cmp (opD_eq hr) mono_eq (dr_var 3 (pv 3)) (dr_of de_str) (by rfl)) (dw_and1 (dt_cmp (opD_notIn hr) mono_in (dr_var 4 (pv 4)) (dr_of (de_gstr (by rfl) t.k_FIGURES)) (by rfl))))) (dw_or1 (dt_bool (dw_and (dt_cmp (opD_in hr) mono_in (dr_var 3 (pv 3)) (dr_of de_str) (by rfl)) (dw_and1 (dt_cmp (opD_ne hr) mono_eq (dr_var 4 (pv 4)) (dr_var 3 (pv 3)) (by rfl))))))))
 (dss_one (ds_raiseF (k := 1) rfl (takes_of rfl rfl rfl rfl) t.s_BadNumber.T (ini_BadNumber t) t.ic_BadNumber t.ti_BadNumber (hr.mono (by decide)) (bini_BadNumber t) (by rfl) t.x_BadNumber.g (de_var 2 (pv 2)))) dss_nil)))))
 (dss_cons (ds_if (dt_cmp opD_gtI mono_fC (dr_of (de_callB cd_len mono_len (by rfl) t.m_len bt_len (dr_var 0 (pv 0)))) (dr_of (de_callB cd_len mono_len (by rfl) t.m_len bt_len (dr_var 1 (pv 1)))) (by rfl))
 (dss_one (ds_raiseF (k := 1) rfl (takes_of rfl rfl rfl rfl) t.s_BadNumber.T (ini_BadNumber t) t.ic_BadNumber t.ti_BadNumber (hr.mono (by decide)) (bini_BadNumber t) (by rfl) t.x_BadNumber.g (de_callB cd_len mono_len (by rfl) t.m_len bt_len (dr_var 1 (pv 1))))) dss_nil)
 (dss_cons (ds_set (i := 5) sc_read.nd rfl (by first | exact .inl rfl | exact .inr rfl) (de_tup (da_cons (de_callTy cd_intT mono_intT (by rfl) t.m_int bt_int (dr_of (de_sl (dr_var 0 (pv 0)) do_none (do_some de_int)))) (da_cons (de_callTy cd_intT mono_intT (by rfl) t.m_int bt_int (dr_of (de_sl (dr_var 0 (pv 0)) (do_some de_int) (do_some de_int)))) (da_cons (de_callTy cd_intT mono_intT (by rfl) t.m_int bt_int (dr_of (de_sl (dr_var 0 (pv 0)) (do_some de_int) (do_some de_int)))) da_nil)))))
 (dss_cons (ds_if (dt_not (dt_val (de_call (ok_is_thing t) (mono_is_thing t w s (hr.mono (by decide))) (hr.mono (by decide)) (by rfl) t.g_is_thing t.f_is_thing.kp (bi_is_thing t) (takes_of rfl rfl rfl rfl) (dp_sh (de_var 5 (pv 5)) dp_nil))))
 (dss_one (ds_raiseF (k := 1) rfl (takes_of rfl rfl rfl rfl) t.s_BadNumber.T (ini_BadNumber t) t.ic_BadNumber t.ti_BadNumber (hr.mono (by decide)) (bini_BadNumber t) (by rfl) t.x_BadNumber.g de_int)) dss_nil)
 (dss_cons (ds_if (dt_cmp (opD_ne hr) mono_eq (dr_of (de_ix (dr_var 0 (pv 0)) (dr_of de_int))) (dr_of (de_call (ok_check_of t) (mono_check_of t w s (hr.mono (by decide))) (hr.mono (by decide)) (by rfl) t.g_check_of t.f_check_of.kp (bi_check_of t) (takes_of rfl rfl rfl rfl) (dp_sh (de_ix (dr_var 5 (pv 5)) (dr_of de_int)) (dp_sh (de_ix (dr_var 5 (pv 5)) (dr_of de_int)) (dp_sh (de_ix (dr_var 5 (pv 5)) (dr_of de_int)) dp_nil))))) (by rfl))
 (dss_one (ds_raiseF (k := 1) rfl (takes_of rfl rfl rfl rfl) t.s_BadNumber.T (ini_BadNumber t) t.ic_BadNumber t.ti_BadNumber (hr.mono (by decide)) (bini_BadNumber t) (by rfl) t.x_BadNumber.g de_int)) dss_nil)
 (dss_one (ds_ret (de_var 5 (pv 5)))))))))))
theorem mono_read (t : Tx a K mg base T) (w : World) (s : Shared) {A : Around} (hr : Room (16 + 1) A) : Mono (c_read a) := mono_cOf (dd_read (w := w) t A [] s (fun _ => none) (fun _ _ _ => False) (hr.deeper _)).mono
theorem ok_read (t : Tx a K mg base T) : FnOk PR w K mg base (L2.CX PR w) (16 + 1) a.f_read a.d_read ["text"] (spD T K 1 (c_read a)) := fn_okD t.f_read sc_read fun A outer s H E hr => dd_read t A outer s H E hr
def u__law_dice (a : Ad) : SW :=
 (sSeq (sIf (wT (wCh (fC fun i j => decide (i < j)) (fC fun i j => decide (i < j)) (w2 (fI CT fun i j => i - j) (wC (.int 0)) (wC (.int 10))) (wVar 0) (wC (.int 10)))) (sRet (wLst (wCons (w1 fAbs (wRd 0)) (wCons (wC (.int 0)) (wCons (wC (.int 2)) wNil))))) sNil)
 (sRet (wLst (wCons (wVar 0) (wCons (w2 fAdd (wC (.int 1)) (w2 (fI (fun _ j => 0 < j) fun i j => i % j) (w1 fInt (wRd 0)) (wC (.int 1009)))) (wCons (w1 fInt (w2 (fC fun i j => decide (j ≤ i)) (wRd 0) (w2 (fI CPow fun i j => i ^ j.toNat) (wC (.int 10)) (wC (.int 18))))) wNil))))))
def c__law_dice (a : Ad) : PW := cOf N__law_dice (u__law_dice a)
theorem dd__law_dice (t : Tx a K mg base T) (A : Around) (outer : List Env) (s : Shared) (H : Hp) (E : XK) (hr : Room 10 (A.deeper (envOfC "_law_dice" (defScope s__law_dice) s.heap.objs.size a.f__law_dice (.ref a.c__law_dice)))) :
  DSs T (cxOf (L2.CX PR w) PR w K mg base N__law_dice "_law_dice" (defScope s__law_dice) a.f__law_dice (.ref a.c__law_dice) A outer s H E) (fun cls d _ H => E cls d H) (defBody s__law_dice) (u__law_dice a) :=
 (dss_cons (ds_if (dt_chain opD_ltI opD_ltI mono_fC mono_fC (de_op opD_sub mono_fI (dr_of de_int) (dr_of de_int)) (de_var 0 (pv 0)) de_int)
 (dss_one (ds_ret (de_fresh (df_lst (da_cons (de_callB cd_abs mono_abs (by rfl) t.m_abs bt_abs (dr_var 0 (pv 0))) (da_cons de_int (da_cons de_int da_nil))))))) dss_nil)
 (dss_one (ds_ret (de_fresh (df_lst (da_cons (de_var 0 (pv 0)) (da_cons (de_op opD_add mono_add (dr_of de_int) (dr_of (de_op opD_mod mono_fI (dr_of (de_callTy cd_int mono_int (by rfl) t.m_int bt_int (dr_var 0 (pv 0)))) (dr_of de_int)))) (da_cons (de_callTy cd_int mono_int (by rfl) t.m_int bt_int (dr_of (de_cmp opD_geI mono_fC (dr_var 0 (pv 0)) (dr_of (de_op opD_pow mono_fI (dr_of de_int) (dr_of de_int))) (by rfl)))) da_nil))))))))
theorem mono__law_dice (t : Tx a K mg base T) (w : World) (s : Shared) {A : Around} (hr : Room (10 + 1) A) : Mono (c__law_dice a) := mono_cOf (dd__law_dice (w := w) t A [] s (fun _ => none) (fun _ _ _ => False) (hr.deeper _)).mono
theorem ok__law_dice (t : Tx a K mg base T) : FnOk PR w K mg base (L2.CX PR w) (10 + 1) a.f__law_dice a.d__law_dice ["cell"] (spD T K 1 (c__law_dice a)) := fn_okD t.f__law_dice sc__law_dice fun A outer s H E hr => dd__law_dice t A outer s H E hr
def u__law_roll (a : Ad) : SW :=
 (sSeq (sIf (wOr (wT (w2 (fEq false) (wDix 0 2) (wC (.int 2)))) (wAnd (wT (w2 (fEq false) (wDix 0 2) (wC (.int 1)))) (wT (w2 (fC fun i j => decide (j < i)) (wDix 0 0) (wC (.int 0)))))) (sSeq (sSet 2 (w2 (fI (fun _ j => 0 < j) fun i j => i % j) (w1 fInt (wDix 0 0)) (wRd 1)))
 (sSeq (sDst 0 0 (w2 (fI CDiv fun i j => i / j) (wDix 0 0) (wRd 1)))
 (sRet (wVar 2)))) sNil)
 (sSeq (sDst 0 2 (wC (.int 0)))
 (sSeq (sDst 0 0 (w2 (fI (fun _ j => 0 < j) fun i j => i % j) (w1 fInt (w2 fAdd (w2 fAdd (w2 fMul (wDix 0 0) (wC (.int 48271))) (w2 fMul (wDix 0 1) (wC (.int 69621)))) (wC (.int 11)))) (wC (.int 2147483647))))
 (sSeq (sDst 0 1 (w2 fAdd (wDix 0 1) (wC (.int 1))))
 (sRet (w2 (fI (fun _ j => 0 < j) fun i j => i % j) (w1 fInt (w2 fAdd (w2 (fI CDiv fun i j => i / j) (wDix 0 0) (wC (.int 7))) (wDix 0 0))) (wRd 1)))))))
def c__law_roll (a : Ad) : PW := cOf N__law_roll (u__law_roll a)
theorem dd__law_roll (t : Tx a K mg base T) (A : Around) (outer : List Env) (s : Shared) (H : Hp) (E : XK) (hr : Room 10 (A.deeper (envOfC "_law_roll" (defScope s__law_roll) s.heap.objs.size a.f__law_roll (.ref a.c__law_roll)))) :
  DSs T (cxOf (L2.CX PR w) PR w K mg base N__law_roll "_law_roll" (defScope s__law_roll) a.f__law_roll (.ref a.c__law_roll) A outer s H E) (fun cls d _ H => E cls d H) (defBody s__law_roll) (u__law_roll a) :=
 (dss_cons (ds_if (dt_bool (dw_or (dt_cmp (opD_eq hr) mono_eq (dr_of (de_dix (i := 0) (k := 2) (pv 0))) (dr_of de_int) (by rfl)) (dw_or1 (dt_bool (dw_and (dt_cmp (opD_eq hr) mono_eq (dr_of (de_dix (i := 0) (k := 2) (pv 0))) (dr_of de_int) (by rfl)) (dw_and1 (dt_cmp opD_gtI mono_fC (dr_of (de_dix (i := 0) (k := 0) (pv 0))) (dr_of de_int) (by rfl))))))))
 (dss_cons (ds_set (i := 2) sc__law_roll.nd rfl (by first | exact .inl rfl | exact .inr rfl) (de_op opD_mod mono_fI (dr_of (de_callTy cd_int mono_int (by rfl) t.m_int bt_int (dr_of (de_dix (i := 0) (k := 0) (pv 0))))) (dr_var 1 (pv 1))))
 (dss_cons (ds_dst (i := 0) (k := 0) (pv 0) (de_op opD_fdiv mono_fI (dr_of (de_dix (i := 0) (k := 0) (pv 0))) (dr_var 1 (pv 1))))
 (dss_one (ds_ret (de_var 2 (pv 2)))))) dss_nil)
 (dss_cons (ds_dst (i := 0) (k := 2) (pv 0) de_int)
 (dss_cons (ds_dst (i := 0) (k := 0) (pv 0) (de_op opD_mod mono_fI (dr_of (de_callTy cd_int mono_int (by rfl) t.m_int bt_int (dr_of (de_op opD_add mono_add (dr_of (de_op opD_add mono_add (dr_of (de_op opD_mul mono_mul (dr_of (de_dix (i := 0) (k := 0) (pv 0))) (dr_of de_int))) (dr_of (de_op opD_mul mono_mul (dr_of (de_dix (i := 0) (k := 1) (pv 0))) (dr_of de_int))))) (dr_of de_int))))) (dr_of de_int)))
 (dss_cons (ds_dst (i := 0) (k := 1) (pv 0) (de_op opD_add mono_add (dr_of (de_dix (i := 0) (k := 1) (pv 0))) (dr_of de_int)))
 (dss_one (ds_ret (de_op opD_mod mono_fI (dr_of (de_callTy cd_int mono_int (by rfl) t.m_int bt_int (dr_of (de_op opD_add mono_add (dr_of (de_op opD_fdiv mono_fI (dr_of (de_dix (i := 0) (k := 0) (pv 0))) (dr_of de_int))) (dr_of (de_dix (i := 0) (k := 0) (pv 0))))))) (dr_var 1 (pv 1)))))))))
theorem mono__law_roll (t : Tx a K mg base T) (w : World) (s : Shared) {A : Around} (hr : Room (10 + 1) A) : Mono (c__law_roll a) := mono_cOf (dd__law_roll (w := w) t A [] s (fun _ => none) (fun _ _ _ => False) (hr.deeper _)).mono
theorem ok__law_roll (t : Tx a K mg base T) : FnOk PR w K mg base (L2.CX PR w) (10 + 1) a.f__law_roll a.d__law_roll ["dice", "many"] (spD T K 2 (c__law_roll a)) := fn_okD t.f__law_roll sc__law_roll fun A outer s H E hr => dd__law_roll t A outer s H E hr
def u__law_rounds (a : Ad) : SW :=
 (sSeq (sSet 2 (wScr 0 (wSo (wVar 1))))
 (sSeq (sIf (wT (w2 (fEq false) (wRd 2) (wLst wNil))) (sSet 2 (wLst (wCons (wC (.int 0)) wNil))) sNil)
 (sRet (wLc (wItL (wVar 2)) (gNameD 3) wYes (wCall 1 (c__law_dice a) (wpSh (wVar 3) wpNil)) [3]))))
def c__law_rounds (a : Ad) : PW := cOf N__law_rounds (u__law_rounds a)
theorem dd__law_rounds (t : Tx a K mg base T) (A : Around) (outer : List Env) (s : Shared) (H : Hp) (E : XK) (hr : Room 12 (A.deeper (envOfC "_law_rounds" (defScope s__law_rounds) s.heap.objs.size a.f__law_rounds (.ref a.c__law_rounds)))) :
  DSs T (cxOf (L2.CX PR w) PR w K mg base N__law_rounds "_law_rounds" (defScope s__law_rounds) a.f__law_rounds (.ref a.c__law_rounds) A outer s H E) (fun cls d _ H => E cls d H) (defBody s__law_rounds) (u__law_rounds a) :=
 (dss_cons (ds_set (i := 2) sc__law_rounds.nd rfl (by first | exact .inl rfl | exact .inr rfl) (de_fresh (df_scr (pv 0) (do_some (de_var 1 (pv 1))))))
 (dss_cons (ds_if (dt_cmp (opD_eq hr) mono_eq (dr_var 2 (pv 2)) (dr_of (de_fresh (df_lst da_nil))) (by rfl))
 (dss_one (ds_set (i := 2) sc__law_rounds.nd rfl (by first | exact .inl rfl | exact .inr rfl) (de_fresh (df_lst (da_cons de_int da_nil))))) dss_nil)
 (dss_one (ds_ret (de_fresh (df_lc (by rfl) sc__law_rounds.nd (di_list (de_var 2 (pv 2))) (blk_by (own := [("cell", 3)]) (by rfl)) (sl := [3]) (by decide) (fun _ _ _ _ _ => (dg_name 3 (pg_name sc__law_rounds.nd rfl (by first | exact .inl rfl | exact .inr rfl)))) (fun _ _ _ _ _ => dts_nil) (fun _ _ _ _ _ => (de_call (ok__law_dice t) (mono__law_dice t w s (hr.mono (by decide))) (hr.mono (by decide)) (by rfl) t.g__law_dice t.f__law_dice.kp (bi__law_dice t) L2.takes0 (dp_sh (de_var 3 (pv 3)) dp_nil)))))))))
theorem mono__law_rounds (t : Tx a K mg base T) (w : World) (s : Shared) {A : Around} (hr : Room (12 + 1) A) : Mono (c__law_rounds a) := mono_cOf (dd__law_rounds (w := w) t A [] s (fun _ => none) (fun _ _ _ => False) (hr.deeper _)).mono
theorem ok__law_rounds (t : Tx a K mg base T) : FnOk PR w K mg base (L2.CX PR w) (12 + 1) a.f__law_rounds a.d__law_rounds ["script", "most"] (spD T K 2 (c__law_rounds a)) := fn_okD t.f__law_rounds sc__law_rounds fun A outer s H E hr => dd__law_rounds t A outer s H E hr
theorem lok7 (A : Around) (outer : List Env) (s : Shared) (H : Hp) (E : XK) : ∀ l ∈ ls7, LamOk (cxOf (L2.CX PR w) PR w K mg base N_law "law" (defScope s_law) a.f_law (.ref a.c_law) A outer s H E) l :=
  List.forall_mem_cons.mpr ⟨⟨lamS_by (by rfl), by rfl, fun _ _ _ _ _ => by rfl⟩, List.forall_mem_cons.mpr ⟨⟨lamS_by (by rfl), by rfl, fun _ _ _ _ _ => by rfl⟩, List.forall_mem_cons.mpr ⟨⟨lamS_by (by rfl), by rfl, fun _ _ _ _ _ => by rfl⟩, List.forall_mem_cons.mpr ⟨⟨lamS_by (by rfl), by rfl, fun _ _ _ _ _ => by rfl⟩, List.forall_mem_cons.mpr ⟨⟨lamS_by (by rfl), by rfl, fun _ _ _ _ _ => by rfl⟩, List.forall_mem_cons.mpr ⟨⟨lamS_by (by rfl), by rfl, fun _ _ _ _ _ => by rfl⟩, (fun _ h => by cases h)⟩⟩⟩⟩⟩⟩
def ws7 (a : Ad) : List PW := [(wCall 2 (c_check_doors a) (wpSh (wC (.int 1)) (wpSh (wTup (wCons (wTup (wCons (wC (.int 0)) (wCons (wVar 2) wNil))) wNil)) wpNil))),
 (wCall 4 (c_first_way a) (wpSh (wC (.int 2)) (wpSh (wTup wNil) (wpSh (wC (.int 0)) (wpSh (wC (.int 1)) wpNil))))),
 (wCall 1 (c_read a) (wpSh (w1 fStrI (wRd 2)) wpNil)),
 (wCall 3 (c_look_signs a) (wpSh (wC (.int 2)) (wpSh (wTup (wCons (wTup (wCons (wC (.int 0)) (wCons (wC (.int 1)) wNil))) wNil)) (wpSh (wTup (wCons (wTup (wCons (wVar 2) (wCons (wC (.int 0)) wNil))) wNil)) wpNil)))),
 (wCall 3 (c_shortest_round a) (wpSh (w2 fAdd (wC (.int 9)) (wRd 2)) (wpSh (wTup wNil) (wpSh (wC (.int 0)) wpNil)))),
 (wMeth 2 3 (c_rp a) (wpSh (wTup (wCons (wC (.int 1900)) (wCons (wC (.int 0)) (wCons (wVar 2) wNil)))) wpNil))]
theorem bodies7 (t : Tx a K mg base T) (A : Around) (outer : List Env) (s : Shared) (H : Hp) (E : XK) : Bodies T (cxOf (L2.CX PR w) PR w K mg base N_law "law" (defScope s_law) a.f_law (.ref a.c_law) A outer s H E) 38 ls7 (ws7 a) :=
  (.cons (fun A outer s H E f c hrL => (de_call (ok_check_doors t) (mono_check_doors t w s (hrL.mono (by decide))) (hrL.mono (by decide)) (by rfl) t.g_check_doors t.f_check_doors.kp (bi_check_doors t) (takes_of rfl rfl rfl rfl) (dp_sh de_int (dp_sh (de_tup (da_cons (de_tup (da_cons de_int (da_cons (de_var 2 (pv 2)) da_nil))) da_nil)) dp_nil))))
  (.cons (fun A outer s H E f c hrL => (de_call (ok_first_way t) (mono_first_way t w s (hrL.mono (by decide))) (hrL.mono (by decide)) (by rfl) t.g_first_way t.f_first_way.kp (bi_first_way t) (takes_of rfl rfl rfl rfl) (dp_sh de_int (dp_sh (de_tup da_nil) (dp_sh de_int (dp_sh de_int dp_nil))))))
  (.cons (fun A outer s H E f c hrL => (de_call (ok_read t) (mono_read t w s (hrL.mono (by decide))) (hrL.mono (by decide)) (by rfl) t.g_read t.f_read.kp (bi_read t) (takes_of rfl rfl rfl rfl) (dp_sh (de_callTy cd_strI mono_strI (by rfl) t.m_str bt_str (dr_var 2 (pv 2))) dp_nil)))
  (.cons (fun A outer s H E f c hrL => (de_call (ok_look_signs t) (mono_look_signs t w s (hrL.mono (by decide))) (hrL.mono (by decide)) (by rfl) t.g_look_signs t.f_look_signs.kp (bi_look_signs t) (takes_of rfl rfl rfl rfl) (dp_sh de_int (dp_sh (de_tup (da_cons (de_tup (da_cons de_int (da_cons de_int da_nil))) da_nil)) (dp_sh (de_tup (da_cons (de_tup (da_cons (de_var 2 (pv 2)) (da_cons de_int da_nil))) da_nil)) dp_nil)))))
  (.cons (fun A outer s H E f c hrL => (de_call (ok_shortest_round t) (mono_shortest_round t w s (hrL.mono (by decide))) (hrL.mono (by decide)) (by rfl) t.g_shortest_round t.f_shortest_round.kp (bi_shortest_round t) (takes_of rfl rfl rfl rfl) (dp_sh (de_op opD_add mono_add (dr_of de_int) (dr_var 2 (pv 2))) (dp_sh (de_tup da_nil) (dp_sh de_int dp_nil)))))
  (.cons (fun A outer s H E f c hrL => (de_meth t.R t.me_rp (fun _ _ _ _ => by rfl) (ok_rp t) (mono_rp t w s (hrL.mono (by decide))) (hrL.mono (by decide)) (bi_rp t) (takes_of rfl rfl rfl rfl) (pv 3) (dp_sh (de_tup (da_cons de_int (da_cons de_int (da_cons (de_var 2 (pv 2)) da_nil)))) dp_nil) (by rfl) (by rfl) (by rfl))) .nil))))))
def u_law (a : Ad) : SW :=
 (sSeq (sParN [2, 3] (wpSh (w2 fAdd (wC (.int 1)) (wCall 2 (c__law_roll a) (wpDc 1 (wpSh (wC (.int 900)) wpNil)))) (wpSh (fun _ Q _ => Q rgM) wpNil)))
 (sLams 4 6 fun fs =>
 (sFor (wRng1 (wCons (w1 fLen (wRd 4)) wNil)) (gNameD 5)
 (sIf (wT (w2 (fEq true) (wToldV fs (ws7 a) (tbl7 a) (w2 fIx (wRd 4) (wRd 5))) (w2 fCat (wLc (wRng1 (wCons (wC (.int 6)) wNil)) (gNameD 6) wYes (w2 (fEq false) (wRd 6) (wRd 5)) [6]) (wLst (wCons (wC (.bool true)) wNil))))) (sRet (wC (.bool false))) sNil))))
def i_law (a : Ad) : PW := (wCall 2 (c__law_rounds a) (wpSc 0 (wpSh (wC (.int 3)) wpNil)))
theorem di_law (t : Tx a K mg base T) (A : Around) (outer : List Env) (s : Shared) (H : Hp) (E : XK) (hr : Room 40 (A.deeper (envOfC "law" (defScope s_law) s.heap.objs.size a.f_law (.ref a.c_law)))) : DE T (cxOf (L2.CX PR w) PR w K mg base N_law "law" (defScope s_law) a.f_law (.ref a.c_law) A outer s H E) (fun cls d _ H => E cls d H) (lawIter s_law) (i_law a) := (de_call (ok__law_rounds t) (mono__law_rounds t w s (hr.mono (by decide))) (hr.mono (by decide)) (by rfl) t.g__law_rounds t.f__law_rounds.kp (bi__law_rounds t) (takes_of rfl rfl rfl rfl) (dp_sc (pv 0) (dp_sh de_int dp_nil)))
theorem dd_law (t : Tx a K mg base T) (A : Around) (outer : List Env) (s : Shared) (H : Hp) (E : XK) (hr : Room 40 (A.deeper (envOfC "law" (defScope s_law) s.heap.objs.size a.f_law (.ref a.c_law)))) :
  DSs T (cxOf (L2.CX PR w) PR w K mg base N_law "law" (defScope s_law) a.f_law (.ref a.c_law) A outer s H E) (fun cls d _ H => E cls d H) (lawBody s_law) (u_law a) :=
 (dss_cons (ds_parT (is := [2, 3]) (n := 2) rfl (db_sh (de_op opD_add mono_add (dr_of de_int) (dr_of (de_call (ok__law_roll t) (mono__law_roll t w s (hr.mono (by decide))) (hr.mono (by decide)) (by rfl) t.g__law_roll t.f__law_roll.kp (bi__law_roll t) (takes_of rfl rfl rfl rfl) (dp_dc (pv 1) (dp_sh de_int dp_nil))))) (db_sh (de_newReg t.R t.mk_ri (ok_ri7 t) (hr.mono (by decide)) (by rfl) t.R_g (bi_ri t) (takes_of rfl rfl rfl rfl)) db_nil)) (pgs_cons (pg_name (i := 2) sc_law.nd rfl (by first | exact .inl rfl | exact .inr rfl)) (pgs_cons (pg_name (i := 3) sc_law.nd rfl (by first | exact .inl rfl | exact .inr rfl)) pgs_nil)) (.cons (.cons .nil)))
 (dss_lams (i := 4) (n := 6) (w := fun fs => (sFor (wRng1 (wCons (w1 fLen (wRd 4)) wNil)) (gNameD 5)
 (sIf (wT (w2 (fEq true) (wToldV fs (ws7 a) (tbl7 a) (w2 fIx (wRd 4) (wRd 5))) (w2 fCat (wLc (wRng1 (wCons (wC (.int 6)) wNil)) (gNameD 6) wYes (w2 (fEq false) (wRd 6) (wRd 5)) [6]) (wLst (wCons (wC (.bool true)) wNil))))) (sRet (wC (.bool false))) sNil))) ls7 ps7 sc_law.nd (by rfl) (by first | exact .inl rfl | exact .inr rfl) t.l_law (by rfl) t.lm_law t.lu_law t.ln_law (by rfl) (by rfl) (by rfl) (by decide) (lok7 _ _ _ _ _) (by rfl) (.inr (by rfl)) fun kn fs hk _ => (fun (t : Tx a K mg base { T with kn := kn }) => (dss_one (ds_for (passes_of rfl) rfl (di_range1 (by rfl) t.m_range (da_cons (de_callB cd_len mono_len (by rfl) t.m_len bt_len (dr_var 4 (pv 4))) da_nil)) (dg_name 5 (pg_name sc_law.nd rfl (by first | exact .inl rfl | exact .inr rfl)))
 (dss_one (ds_if (dt_cmp (opD_ne hr) mono_eq (dr_of (de_toldv (k := 38) (Ng := N__law_told) (ls := ls7) (by rfl) t.g__law_told t.f__law_told (bi__law_told t) sc__law_told (by rfl) (.inl (by rfl)) (told7_gives (ie := 1) (is := 2) (tbl := tbl7 a) sc__law_told.nd (by rfl) (.inl (by rfl)) (by rfl) (by rfl) (.inl (by rfl)) (.inl (by rfl)) (by rfl) (by decide) (by rfl) t.x_HallFault.g (by decide) (by rfl) t.m_isinstance (by rfl) t.m_ValueError (by rfl) t.x_BadPlan.g (by decide) (by rfl) t.x_NoWay.g (by decide) (by rfl) t.x_BadNumber.g (by decide) (by rfl) t.x_BadPaper.g (by decide) (by rfl) t.x_TooLarge.g (by decide) (by rfl) t.x_BadDeed.g (by decide) (fun p hp => by
   simp only [tbl7, List.mem_cons, List.not_mem_nil, or_false] at hp
   rcases hp with rfl | rfl | rfl | rfl | rfl | rfl
   · exact t.ec_BadPlan
   · exact t.ec_NoWay
   · exact t.ec_BadNumber
   · exact t.ec_BadPaper
   · exact t.ec_TooLarge
   · exact t.ec_BadDeed) (fun p hp => by
   simp only [tbl7, List.mem_cons, List.not_mem_nil, or_false] at hp
   rcases hp with rfl | rfl | rfl | rfl | rfl | rfl
   · exact t.e7_BadPlan
   · exact t.e7_NoWay
   · exact t.e7_BadNumber
   · exact t.e7_BadPaper
   · exact t.e7_TooLarge
   · exact t.e7_BadDeed) (fun p hp => by
   simp only [tbl7, List.mem_cons, List.not_mem_nil, or_false] at hp
   rcases hp with rfl | rfl | rfl | rfl | rfl | rfl
   · exact t.k7_BadPlan
   · exact t.k7_NoWay
   · exact t.k7_BadNumber
   · exact t.k7_BadPaper
   · exact t.k7_TooLarge
   · exact t.k7_BadDeed) (by decide) (by decide) (by decide) (by decide) (fun _ => by rfl)) hr (de_ix (dr_var 4 (pv 4)) (dr_var 5 (pv 5))) hk (lok7 _ _ _ _ _) ((bodies7 (w := w) t A outer s H E).mono hr) (bodies7 (w := w) t A outer s H E).at)) (dr_of (de_fresh (df_op opF_cat mono_cat (dr_of (de_fresh (df_lc (by rfl) sc_law.nd (di_range1 (by rfl) t.m_range (da_cons de_int da_nil)) (blk_by (own := [("j", 6)]) (by rfl)) (sl := [6]) (by decide) (fun _ _ _ _ _ => (dg_name 6 (pg_name sc_law.nd rfl (by first | exact .inl rfl | exact .inr rfl)))) (fun _ _ _ _ _ => dts_nil) (fun _ _ _ _ _ => (de_cmp (opD_eq hr) mono_eq (dr_var 6 (pv 6)) (dr_var 5 (pv 5)) (by rfl)))))) (dr_of (de_fresh (df_lst (da_cons de_bl da_nil))))))) (by rfl))
 (dss_one (ds_ret de_bl)) dss_nil))))) (t.kn kn)))
end
section
variable {l : PySem.W.OpenLaw} {w : World} {K : PySem.W.Frag} {h : Heap} {mg : Str → Option Value} {q : Program} {fa : Addr}
/-- what the top has written -/
structure Fc (a : Ad) (K : PySem.W.Frag) : Prop where
  d_check_doors : DefF K "check_doors" s_check_doors a.f_check_doors a.c_check_doors a.d_check_doors
  d_beside : DefF K "beside" s_beside a.f_beside a.c_beside a.d_beside
  d_far_from : DefF K "far_from" s_far_from a.f_far_from a.c_far_from a.d_far_from
  d_first_way : DefF K "first_way" s_first_way a.f_first_way a.c_first_way a.d_first_way
  d_hangs_together : DefF K "hangs_together" s_hangs_together a.f_hangs_together a.c_hangs_together a.d_hangs_together
  d_shortest_round : DefF K "shortest_round" s_shortest_round a.f_shortest_round a.c_shortest_round a.d_shortest_round
  d_look_signs : DefF K "look_signs" s_look_signs a.f_look_signs a.c_look_signs a.d_look_signs
  d_three : DefF K "three" s_three a.f_three a.c_three a.d_three
  d_check_of : DefF K "check_of" s_check_of a.f_check_of a.c_check_of a.d_check_of
  d_is_thing : DefF K "is_thing" s_is_thing a.f_is_thing a.c_is_thing a.d_is_thing
  d_read : DefF K "read" s_read a.f_read a.c_read a.d_read
  d__law_dice : DefF K "_law_dice" s__law_dice a.f__law_dice a.c__law_dice a.d__law_dice
  d__law_roll : DefF K "_law_roll" s__law_roll a.f__law_roll a.c__law_roll a.d__law_roll
  d__law_rounds : DefF K "_law_rounds" s__law_rounds a.f__law_rounds a.c__law_rounds a.d__law_rounds
  d__law_told : DefF K "_law_told" s__law_told a.f__law_told a.c__law_told a.d__law_told
  d_law : DefF K "law" s_law a.f_law a.c_law a.d_law
  x_BadPlan : ExcF K "BadPlan" a.x_BadPlan
  xe_BadPlan : PySem.W.excIn K a.x_BadPlan [.type "ValueError", .type "Exception", .type "BaseException", .type "object"] "ValueError.__new__" = true
  x_NoWay : ExcF K "NoWay" a.x_NoWay
  xe_NoWay : PySem.W.excIn K a.x_NoWay [.type "ValueError", .type "Exception", .type "BaseException", .type "object"] "ValueError.__new__" = true
  x_BadNumber : ExcF K "BadNumber" a.x_BadNumber
  x_BadPaper : ExcF K "BadPaper" a.x_BadPaper
  x_TooLarge : ExcF K "TooLarge" a.x_TooLarge
  xe_TooLarge : PySem.W.excIn K a.x_TooLarge [.type "ValueError", .type "Exception", .type "BaseException", .type "object"] "ValueError.__new__" = true
  x_BadDeed : ExcF K "BadDeed" a.x_BadDeed
  xe_BadDeed : PySem.W.excIn K a.x_BadDeed [.type "ValueError", .type "Exception", .type "BaseException", .type "object"] "ValueError.__new__" = true
  x_HallFault : ExcF K "HallFault" a.x_HallFault
  m_ValueError : PySem.W.nsIn K mainGlobals "ValueError" = some none
  m_abs : PySem.W.nsIn K mainGlobals "abs" = some none
  m_all : PySem.W.nsIn K mainGlobals "all" = some none
  m_any : PySem.W.nsIn K mainGlobals "any" = some none
  m_bool : PySem.W.nsIn K mainGlobals "bool" = some none
  m_enumerate : PySem.W.nsIn K mainGlobals "enumerate" = some none
  m_int : PySem.W.nsIn K mainGlobals "int" = some none
  m_isinstance : PySem.W.nsIn K mainGlobals "isinstance" = some none
  m_len : PySem.W.nsIn K mainGlobals "len" = some none
  m_list : PySem.W.nsIn K mainGlobals "list" = some none
  m_max : PySem.W.nsIn K mainGlobals "max" = some none
  m_min : PySem.W.nsIn K mainGlobals "min" = some none
  m_range : PySem.W.nsIn K mainGlobals "range" = some none
  m_sorted : PySem.W.nsIn K mainGlobals "sorted" = some none
  m_str : PySem.W.nsIn K mainGlobals "str" = some none
  m_sum : PySem.W.nsIn K mainGlobals "sum" = some none
  m_tuple : PySem.W.nsIn K mainGlobals "tuple" = some none
  k_FIGURES : ∃ t, PySem.W.nsIn K mainGlobals "FIGURES" = some (some (.str "0123456789" t))
  s_BadNumber : SupI PR K a.x_BadNumber a.i_BadNumber "BadNumber.__init__" (defArgs si_BadNumber) (defBody si_BadNumber) (defScope si_BadNumber) a.di_BadNumber "place"
  ic_BadNumber : PySem.W.findIn K (.ref a.x_BadNumber) "__init__" = some (some (.ref a.i_BadNumber))
  ti_BadNumber : PySem.W.typeIn K (.ref a.i_BadNumber) = some (.type "function")
  s_BadPaper : SupI PR K a.x_BadPaper a.i_BadPaper "BadPaper.__init__" (defArgs si_BadPaper) (defBody si_BadPaper) (defScope si_BadPaper) a.di_BadPaper "part"
  ic_BadPaper : PySem.W.findIn K (.ref a.x_BadPaper) "__init__" = some (some (.ref a.i_BadPaper))
  ti_BadPaper : PySem.W.typeIn K (.ref a.i_BadPaper) = some (.type "function")
  ec_BadPlan : ExcC K a.x_BadPlan
  e7_BadPlan : PySem.W.exmOne K (.ref a.x_BadPlan) (.ref a.x_HallFault) = some true
  k7_BadPlan : Ans7 K a.x_BadPlan a.x_NoWay a.x_BadNumber a.x_BadPaper a.x_TooLarge a.x_BadDeed a.x_BadPlan [true, false, false, false, false, false, true]
  ec_NoWay : ExcC K a.x_NoWay
  e7_NoWay : PySem.W.exmOne K (.ref a.x_NoWay) (.ref a.x_HallFault) = some true
  k7_NoWay : Ans7 K a.x_BadPlan a.x_NoWay a.x_BadNumber a.x_BadPaper a.x_TooLarge a.x_BadDeed a.x_NoWay [false, true, false, false, false, false, true]
  ec_BadNumber : ExcC K a.x_BadNumber
  e7_BadNumber : PySem.W.exmOne K (.ref a.x_BadNumber) (.ref a.x_HallFault) = some true
  k7_BadNumber : Ans7 K a.x_BadPlan a.x_NoWay a.x_BadNumber a.x_BadPaper a.x_TooLarge a.x_BadDeed a.x_BadNumber [false, false, true, false, false, false, true]
  ec_BadPaper : ExcC K a.x_BadPaper
  e7_BadPaper : PySem.W.exmOne K (.ref a.x_BadPaper) (.ref a.x_HallFault) = some true
  k7_BadPaper : Ans7 K a.x_BadPlan a.x_NoWay a.x_BadNumber a.x_BadPaper a.x_TooLarge a.x_BadDeed a.x_BadPaper [false, false, false, true, false, false, true]
  ec_TooLarge : ExcC K a.x_TooLarge
  e7_TooLarge : PySem.W.exmOne K (.ref a.x_TooLarge) (.ref a.x_HallFault) = some true
  k7_TooLarge : Ans7 K a.x_BadPlan a.x_NoWay a.x_BadNumber a.x_BadPaper a.x_TooLarge a.x_BadDeed a.x_TooLarge [false, false, false, false, true, false, true]
  ec_BadDeed : ExcC K a.x_BadDeed
  e7_BadDeed : PySem.W.exmOne K (.ref a.x_BadDeed) (.ref a.x_HallFault) = some true
  k7_BadDeed : Ans7 K a.x_BadPlan a.x_NoWay a.x_BadNumber a.x_BadPaper a.x_TooLarge a.x_BadDeed a.x_BadDeed [false, false, false, false, false, true, true]
  R : RgC K a.C_R
  mk_ri : Mk K a.C_R a.f_ri
  F_ri : FunM K "__init__" "Register.__init__" s_ri a.f_ri a.c_ri a.d_ri
  F_rp : FunM K "put_by" "Register.put_by" s_rp a.f_rp a.c_rp a.d_rp
  F_rg : FunM K "go_on" "Register.go_on" s_rg a.f_rg a.c_rg a.d_rg
  me_rp : Meth K a.C_R "put_by" a.f_rp
  me_rg : Meth K a.C_R "go_on" a.f_rg
  off : ∀ p ∈ ([a.p_check_doors, a.p_check_of, a.p_is_thing, a.p_ri] : List Addr), p ∉ ([a.p_law] ++ [] : List Addr)
  offm : ∀ p ∈ ([a.p_law] : List Addr), p ∉ ([a.p_check_doors, a.p_check_of, a.p_is_thing, a.p_ri] ++ [] : List Addr)
def tb (a : Ad) : Tb := { tg := [a.p_check_doors, a.p_check_of, a.p_is_thing, a.p_ri], tl := [(a.p_law, (envOfC "law" (defScope s_law) 0 0 (.ref 0)).qual ++ "<lambda>")], tn := [] }
def cs (a : Ad) : List (Addr × Addr) := [(a.c_check_doors, a.p_check_doors), (a.c_check_of, a.p_check_of), (a.c_is_thing, a.p_is_thing), (a.c_law, a.p_law), (a.c_ri, a.p_ri)]
structure Ft (a : Ad) (K : PySem.W.Frag) (h : Heap) : Prop where
  hd : ∀ p ∈ cs a, PySem.W.codeHdIn K p.1 p.2 = true
  out : ∀ p ∈ cs a, K.lookup p.2 = none
  em : ∀ p ∈ cs a, h.get? p.2 = some { cls := .none, data := .fields #[] }
theorem tx_of {a : Ad} (F : Fc a K) (X : K.In h) (G : h.Ns mainGlobals mg) {base : Heap} (B : ∀ p ∈ cs a, LamX.TabB base mg p.1 p.2) (dc : List Addr) : Tx a K mg base { tb a with dc := dc } := {
  m_ValueError := PySem.W.mg_none_of X G F.m_ValueError
  m_abs := PySem.W.mg_none_of X G F.m_abs
  m_all := PySem.W.mg_none_of X G F.m_all
  m_any := PySem.W.mg_none_of X G F.m_any
  m_bool := PySem.W.mg_none_of X G F.m_bool
  m_enumerate := PySem.W.mg_none_of X G F.m_enumerate
  m_int := PySem.W.mg_none_of X G F.m_int
  m_isinstance := PySem.W.mg_none_of X G F.m_isinstance
  m_len := PySem.W.mg_none_of X G F.m_len
  m_list := PySem.W.mg_none_of X G F.m_list
  m_max := PySem.W.mg_none_of X G F.m_max
  m_min := PySem.W.mg_none_of X G F.m_min
  m_range := PySem.W.mg_none_of X G F.m_range
  m_sorted := PySem.W.mg_none_of X G F.m_sorted
  m_str := PySem.W.mg_none_of X G F.m_str
  m_sum := PySem.W.mg_none_of X G F.m_sum
  m_tuple := PySem.W.mg_none_of X G F.m_tuple
  k_FIGURES := F.k_FIGURES.elim fun t h => ⟨t, PySem.W.mg_of X G h⟩
  f_check_doors := F.d_check_doors.F
  g_check_doors := PySem.W.mg_of X G F.d_check_doors.ns
  t_check_doors := gxTab (B (a.c_check_doors, a.p_check_doors) (by simp [cs]))
  tm_check_doors := by simp [tb]
  tn_check_doors := F.off a.p_check_doors (by simp)
  f_beside := F.d_beside.F
  g_beside := PySem.W.mg_of X G F.d_beside.ns
  f_far_from := F.d_far_from.F
  g_far_from := PySem.W.mg_of X G F.d_far_from.ns
  f_first_way := F.d_first_way.F
  g_first_way := PySem.W.mg_of X G F.d_first_way.ns
  f_hangs_together := F.d_hangs_together.F
  g_hangs_together := PySem.W.mg_of X G F.d_hangs_together.ns
  f_shortest_round := F.d_shortest_round.F
  g_shortest_round := PySem.W.mg_of X G F.d_shortest_round.ns
  f_look_signs := F.d_look_signs.F
  g_look_signs := PySem.W.mg_of X G F.d_look_signs.ns
  f_three := F.d_three.F
  g_three := PySem.W.mg_of X G F.d_three.ns
  f_check_of := F.d_check_of.F
  g_check_of := PySem.W.mg_of X G F.d_check_of.ns
  t_check_of := gxTab (B (a.c_check_of, a.p_check_of) (by simp [cs]))
  tm_check_of := by simp [tb]
  tn_check_of := F.off a.p_check_of (by simp)
  f_is_thing := F.d_is_thing.F
  g_is_thing := PySem.W.mg_of X G F.d_is_thing.ns
  t_is_thing := gxTab (B (a.c_is_thing, a.p_is_thing) (by simp [cs]))
  tm_is_thing := by simp [tb]
  tn_is_thing := F.off a.p_is_thing (by simp)
  f_read := F.d_read.F
  g_read := PySem.W.mg_of X G F.d_read.ns
  f__law_dice := F.d__law_dice.F
  g__law_dice := PySem.W.mg_of X G F.d__law_dice.ns
  f__law_roll := F.d__law_roll.F
  g__law_roll := PySem.W.mg_of X G F.d__law_roll.ns
  f__law_rounds := F.d__law_rounds.F
  g__law_rounds := PySem.W.mg_of X G F.d__law_rounds.ns
  f__law_told := F.d__law_told.F
  g__law_told := PySem.W.mg_of X G F.d__law_told.ns
  f_law := F.d_law.F
  g_law := PySem.W.mg_of X G F.d_law.ns
  l_law := B (a.c_law, a.p_law) (by simp [cs])
  lm_law := by simp [tb]
  lu_law := fun p hp e => by
    simp only [tb, List.mem_cons, List.not_mem_nil, or_false] at hp
    rw [hp]
  ln_law := F.offm a.p_law (by simp)
  x_BadPlan := ⟨PySem.W.mg_of X G F.x_BadPlan.ns, F.x_BadPlan.kp, F.x_BadPlan.sub, F.x_BadPlan.ty⟩
  xe_BadPlan := F.xe_BadPlan
  x_NoWay := ⟨PySem.W.mg_of X G F.x_NoWay.ns, F.x_NoWay.kp, F.x_NoWay.sub, F.x_NoWay.ty⟩
  xe_NoWay := F.xe_NoWay
  x_BadNumber := ⟨PySem.W.mg_of X G F.x_BadNumber.ns, F.x_BadNumber.kp, F.x_BadNumber.sub, F.x_BadNumber.ty⟩
  x_BadPaper := ⟨PySem.W.mg_of X G F.x_BadPaper.ns, F.x_BadPaper.kp, F.x_BadPaper.sub, F.x_BadPaper.ty⟩
  x_TooLarge := ⟨PySem.W.mg_of X G F.x_TooLarge.ns, F.x_TooLarge.kp, F.x_TooLarge.sub, F.x_TooLarge.ty⟩
  xe_TooLarge := F.xe_TooLarge
  x_BadDeed := ⟨PySem.W.mg_of X G F.x_BadDeed.ns, F.x_BadDeed.kp, F.x_BadDeed.sub, F.x_BadDeed.ty⟩
  xe_BadDeed := F.xe_BadDeed
  x_HallFault := ⟨PySem.W.mg_of X G F.x_HallFault.ns, F.x_HallFault.kp, F.x_HallFault.sub, F.x_HallFault.ty⟩
  s_BadNumber := F.s_BadNumber
  ic_BadNumber := F.ic_BadNumber
  ti_BadNumber := F.ti_BadNumber
  s_BadPaper := F.s_BadPaper
  ic_BadPaper := F.ic_BadPaper
  ti_BadPaper := F.ti_BadPaper
  ec_BadPlan := F.ec_BadPlan
  e7_BadPlan := F.e7_BadPlan
  k7_BadPlan := F.k7_BadPlan
  ec_NoWay := F.ec_NoWay
  e7_NoWay := F.e7_NoWay
  k7_NoWay := F.k7_NoWay
  ec_BadNumber := F.ec_BadNumber
  e7_BadNumber := F.e7_BadNumber
  k7_BadNumber := F.k7_BadNumber
  ec_BadPaper := F.ec_BadPaper
  e7_BadPaper := F.e7_BadPaper
  k7_BadPaper := F.k7_BadPaper
  ec_TooLarge := F.ec_TooLarge
  e7_TooLarge := F.e7_TooLarge
  k7_TooLarge := F.k7_TooLarge
  ec_BadDeed := F.ec_BadDeed
  e7_BadDeed := F.e7_BadDeed
  k7_BadDeed := F.k7_BadDeed
  R := F.R
  mk_ri := F.mk_ri
  F_ri := F.F_ri
  F_rp := F.F_rp
  F_rg := F.F_rg
  me_rp := F.me_rp
  me_rg := F.me_rg
  R_g := PySem.W.mg_of X G F.R.ns
  t_ri := gxTab (B (a.c_ri, a.p_ri) (by simp [cs]))
  tm_ri := by simp [tb]
  tn_ri := F.off a.p_ri (by simp)
}
theorem law_at {a : Ad} (F : Fc a K) (FT : Ft a K h) (X : K.In h) (G : h.Ns mainGlobals mg) (hl : l.prog = PySem.Challenge.pw_museum_k21_refusals_apart) (hfa : mg "law" = some (.ref fa))
    (pure_law : ∀ ns : List Int, ns.length ≤ 63 → i_law a (.scr ns :: uns (N_law.length - 1)) (fun d => ∃ ds, d = .list ds ∧ Triples ds ∧ u_law a ((uns N_law.length).set 1 .dice) (lawEnd N_law.length)) (fun _ => False)) :
    LamX.LawAtS l w K (L2.CX l.prog w) 41 63 "script" mg fa h := by
  have e := hfa.symm.trans (PySem.W.mg_of X G F.d_law.ns)
  cases e
  refine ⟨a.d_law, cs a, fun vs H Q _ => ∃ (b : Addr) (ns : List Int), vs = [.ref b] ∧ ns.length ≤ 63 ∧ SqL K H b (ns.map V.int) ∧ TOk (tb a) H ∧ ∀ H', Q (.bl true) H', FT.em, FT.out, fun p hp => PySem.W.codeHd_of_K X (FT.hd p hp), fun s u => ?_, fun H b ns hn _ hc hS => ⟨b, ns, rfl, hn, hS, ⟨fun P hP => ?_, fun p hp => ?_, fun P hP => (by cases hP), fun q hq => (by cases hq), fun q hq => by cases hq⟩, fun _ => rfl⟩, fun base Kb Gb B => ?_⟩
  · obtain ⟨oc, od, kV, doc, pm, an, ct, osl, e, _, _⟩ := F.d_law.F.ex
    rw [e]
    exact .of_eq rfl
  · refine ⟨#[], ?_, trivial⟩
    simp only [tb, List.mem_cons, List.not_mem_nil, or_false] at hP
    rcases hP with rfl | rfl | rfl | rfl
    · exact hc (a.c_check_doors, a.p_check_doors) (by simp [cs])
    · exact hc (a.c_check_of, a.p_check_of) (by simp [cs])
    · exact hc (a.c_is_thing, a.p_is_thing) (by simp [cs])
    · exact hc (a.c_ri, a.p_ri) (by simp [cs])
  · simp only [tb, List.mem_cons, List.not_mem_nil, or_false] at hp
    rcases hp with rfl
    · exact LamX.TabS.nil (hc (a.c_law, a.p_law) (by simp [cs]))
  · have t := fun dc => tx_of F X G B dc
    rw [hl]
    exact law_okD (T := tb a) (k := 40) (i := 1) (wi := i_law a) (bw := u_law a) F.d_law.F sc_law (by decide) (by decide) rfl rfl (fun A outer s H E hr => di_law (t []) A outer s H E hr) (fun A outer s H E => pg_name sc_law.nd rfl (by first | exact .inl rfl | exact .inr rfl)) (fun A outer s H E dc hr => dd_law (t dc) A outer s H E hr) (fun _ _ _ _ _ _ => rfl) pure_law
end
end M21
set_option Elab.async false
set_option linter.all false
set_option maxRecDepth 100000
set_option maxHeartbeats 1000000
namespace M21
open PySem PySem.Spec PyProof.Rows L2 PL
theorem sz3 : 3 ≤ sizeLine := by rw [sizeLine_eq]; decide
theorem p_dice (a : Ad) (c : Int) (Q : PyData → Prop) (E : Exn → Prop) (h : ∀ x y z : Int, Q (.list [.int x, .int y, .int z])) : c__law_dice a [.sh (.int c)] Q E := by
  have s3 := sz3
  show u__law_dice a [.sh (.int c)] _
  simp only [u__law_dice, sSeq, sIf, sRet, sNil, wT, wCh, w2, wC, wVar, wRd, fC, fI, wLst, wCons, wNil, w1, fAbs, fAdd, fInt, CT, List.getElem?_cons_zero]
  refine ⟨trivial, ?_⟩
  have last : CPow 10 18 ∧ ([PyData.int c, PyData.int (1 + c % 1009), PyData.int (if (decide ((10:Int) ^ Int.toNat 18 ≤ c)) = true then 1 else 0)].length ≤ sizeLine ∧ Q (.list [.int c, .int (1 + c % 1009), .int (if (decide ((10:Int) ^ Int.toNat 18 ≤ c)) = true then 1 else 0)])) := ⟨⟨by decide, by decide, by decide⟩, s3, h _ _ _⟩
  by_cases e1 : (0:Int) - 10 < c
  · simp only [decide_eq_true e1]
    by_cases e2 : c < (10:Int)
    · simp only [decide_eq_true e2, if_true]
      exact ⟨s3, h _ _ _⟩
    · simp only [decide_eq_false e2]
      exact ⟨by decide, last⟩
  · simp only [decide_eq_false e1]
    exact ⟨by decide, last⟩
theorem p_roll (a : Ad) (n : Int) (Q : PyData → Prop) (E : Exn → Prop) (h0 : 0 < n) (h1 : n < 1073741824) (h : ∀ r : Int, 0 ≤ r → r < n → Q (.int r)) : c__law_roll a [.dice, .sh (.int n)] Q E := by
  show u__law_roll a [.dice, .sh (.int n), .un] _
  have hm : ∀ x : Int, Q (.int (x % n)) := fun x => h _ (Int.emod_nonneg _ (by omega)) (Int.emod_lt_of_pos _ h0)
  have pl : ∀ i : Int, Pl (.int i) := fun i => ⟨rfl, Nat.zero_le _⟩
  have rest : sSeq (sDst 0 2 (wC (.int 0))) (sSeq (sDst 0 0 (w2 (fI (fun _ j => 0 < j) fun i j => i % j) (w1 fInt (w2 fAdd (w2 fAdd (w2 fMul (wDix 0 0) (wC (.int 48271))) (w2 fMul (wDix 0 1) (wC (.int 69621)))) (wC (.int 11)))) (wC (.int 2147483647))))
      (sSeq (sDst 0 1 (w2 fAdd (wDix 0 1) (wC (.int 1)))) (sRet (w2 (fI (fun _ j => 0 < j) fun i j => i % j) (w1 fInt (w2 fAdd (w2 (fI CDiv fun i j => i / j) (wDix 0 0) (wC (.int 7))) (wDix 0 0))) (wRd 1))))) [.dice, .sh (.int n), .un] { nx := fun _ => Q .none, rt := Q, ex := E } := by
    refine ⟨rfl, by decide, rfl, by decide, rfl, by decide, fun x => ⟨.inr ⟨by decide, by decide⟩, ?_⟩⟩
    refine ⟨rfl, by decide, fun y => ⟨.inr ⟨by decide, by decide⟩, ?_⟩⟩
    refine ⟨(by decide : (0:Int) < 2147483647), rfl, by decide, rfl, by decide, fun z => ?_⟩
    refine ⟨rfl, by decide, fun u => ⟨⟨by decide, by decide⟩, ?_⟩⟩
    exact ⟨rfl, by decide, fun v => ⟨h0, hm _⟩⟩
  refine ⟨rfl, by decide, fun x => ⟨⟨pl _, pl _⟩, ?_⟩⟩
  have first : ∀ D, sSeq (sSet 2 (w2 (fI (fun _ j => 0 < j) fun i j => i % j) (w1 fInt (wDix 0 0)) (wRd 1))) (sSeq (sDst 0 0 (w2 (fI CDiv fun i j => i / j) (wDix 0 0) (wRd 1))) (sRet (wVar 2))) [.dice, .sh (.int n), .un] { nx := D, rt := Q, ex := E } := fun D =>
    ⟨rfl, by decide, fun y => ⟨h0, rfl, by decide, rfl, by decide, fun z => ⟨⟨h0, h1⟩, hm _⟩⟩⟩
  by_cases e : PyData.eqv (.int x) (.int 2) = true
  · rw [if_neg (by decide), e]
    exact first _
  · rw [if_neg (by decide), Bool.eq_false_iff.mpr e]
    refine ⟨rfl, by decide, fun y => ⟨⟨pl _, pl _⟩, ?_⟩⟩
    by_cases e' : PyData.eqv (.int y) (.int 1) = true
    · rw [if_neg (by decide), e']
      refine ⟨rfl, by decide, fun z => ?_⟩
      by_cases e'' : 0 < z
      · show if decide (0 < z) = true then _ else _
        rw [if_pos (decide_eq_true e'')]
        exact first _
      · show if decide (0 < z) = true then _ else _
        rw [if_neg (by rw [decide_eq_false e'']; decide)]
        exact rest
    · rw [if_neg (by decide), Bool.eq_false_iff.mpr e']
      exact rest
theorem plainAll_ints : ∀ ns : List Int, PyData.plainAll (ns.map .int) = true
  | [] => rfl
  | n :: r => by
    show (PyData.plain (.int n) && PyData.plainAll (r.map .int)) = true
    rw [plainAll_ints r]
    rfl
theorem depthAll_ints : ∀ ns : List Int, PyData.depthAll (ns.map .int) ≤ 1
  | [] => Nat.zero_le _
  | n :: r => by
    have := depthAll_ints r
    simp only [List.map_cons, PyData.depthAll, PyData.depth]
    omega
theorem Pl_ints (ns : List Int) : Pl (.list (ns.map .int)) := ⟨plainAll_ints ns, by
  have := depthAll_ints ns
  simp only [PyData.depth]
  omega⟩
theorem cutD_map (ns : List Int) (lo hi : Option Int) : ∃ ms : List Int, PL.cutD (ns.map .int) lo hi = ms.map .int ∧ ms.length ≤ ns.length := by
  unfold PL.cutD
  rw [← List.map_drop, ← List.map_take]
  exact ⟨_, rfl, by rw [List.length_take, List.length_drop]; omega⟩
theorem lc_dice (a : Ad) {ρw : En} {ns : List Int} {x y : PyData} (hρ : ρw = [.scr ns, .sh x, .sh y, .un]) (Q : List PyData → Prop) (h : ∀ ds, Triples ds → Q ds) : ∀ (ms : List Int) (acc : List PyData), Triples acc → acc.length + ms.length < 1000 →
    goLc (gNameD 3) wYes (wCall 1 (c__law_dice a) (wpSh (wVar 3) wpNil)) ρw (ms.map .int) acc Q
  | [], acc, t, _ => h acc t
  | m :: r, acc, t, hl => by
    subst hρ
    rw [List.length_cons] at hl
    refine ⟨rfl, p_dice a m _ _ fun x y z => ⟨?_, lc_dice a rfl Q h r _ (fun d hd => ?_) ?_⟩⟩
    · rw [sizeLine_eq]; omega
    · rcases List.mem_append.mp hd with hd | hd
      · exact t d hd
      · rw [List.mem_singleton.mp hd]; exact ⟨x, y, z, rfl⟩
    · rw [List.length_append]
      simp only [List.length_cons, List.length_nil]
      omega
theorem p_rounds (a : Ad) (ns : List Int) (k : Int) (hn : ns.length ≤ 63) (Q : PyData → Prop) (E : Exn → Prop) (h : ∀ ds, Triples ds → Q (.list ds)) : c__law_rounds a [.scr ns, .sh (.int k)] Q E := by
  show u__law_rounds a [.scr ns, .sh (.int k), .un, .un] _
  obtain ⟨ms, e, hm⟩ := cutD_map ns none (some k)
  have fin : ∀ ms : List Int, ms.length ≤ 63 → sRet (wLc (wItL (wVar 2)) (gNameD 3) wYes (wCall 1 (c__law_dice a) (wpSh (wVar 3) wpNil)) [3]) [.scr ns, .sh (.int k), .sh (.list (ms.map .int)), .un] { nx := fun _ => Q .none, rt := Q, ex := E } := fun ms hm => by
    refine ⟨fun i hi s hs => ?_, lc_dice a rfl _ h ms [] (fun d hd => by cases hd) (by simp only [List.length_nil]; omega)⟩
    rw [List.mem_singleton.mp hi] at hs
    cases hs
    rfl
  have rest : sSeq (sIf (wT (w2 (fEq false) (wRd 2) (wLst wNil))) (sSet 2 (wLst (wCons (wC (.int 0)) wNil))) sNil) (sRet (wLc (wItL (wVar 2)) (gNameD 3) wYes (wCall 1 (c__law_dice a) (wpSh (wVar 3) wpNil)) [3]))
      [.scr ns, .sh (.int k), .sh (.list (ms.map .int)), .un] { nx := fun _ => Q .none, rt := Q, ex := E } := by
    refine ⟨Nat.zero_le _, ⟨Pl_ints ms, Pl_ints []⟩, ?_⟩
    show if PyData.eqv (.list (ms.map .int)) (.list []) = true then _ else _
    by_cases c : PyData.eqv (.list (ms.map .int)) (.list []) = true
    · rw [if_pos c]
      exact ⟨by rw [sizeLine_eq]; decide, fin [0] (by decide)⟩
    · rw [if_neg c]
      exact fin ms (by omega)
  rw [← e] at rest
  exact ⟨ns, rfl, rest⟩
end M21
set_option Elab.async false
set_option linter.all false
set_option maxRecDepth 100000
set_option maxHeartbeats 1000000
namespace M21
open PySem PySem.Spec PyProof.Rows L2 PL
local macro_rules | `(tactic| walk_at "sz") => `(tactic| first | omega | (simp only [List.length_map, List.length_cons, List.length_nil, List.length_append, List.length_range, List.length_zipIdx] <;> omega))
local macro_rules | `(tactic| walk_at "pl") => `(tactic| first | exact U.pl_int _ | exact U.pl_str _ | exact U.pl_none | exact U.pl_bool _)
local macro_rules | `(tactic| walk_at "side") => `(tactic| first | exact True.intro | with_reducible exact rfl | exact U.le_size (by walk_at "sz") | exact U.lt_size (by walk_at "sz") | exact And.intro (by walk_at "pl") (by walk_at "pl") | exact And.intro (by walk_at "sz") (by walk_at "sz") | exact Or.inl (And.intro (by walk_at "sz") (by walk_at "sz")) | exact Or.inr (And.intro (by walk_at "sz") (by walk_at "sz")) | exact And.intro (by decide +kernel) (U.le_size (by walk_at "sz")) | walk_at "sz")
local macro_rules | `(tactic| walk_at "wp") => `(tactic| ((conv => whnf); (try dsimp only); repeat (refine And.intro (by walk_at "side") ?_; (conv => whnf); (try dsimp only))))
theorem ch3_of {c1 c2 c3 : Int → Int → Bool} {wa wb wc wd : PW} {ρ : En} {Q : PyData → Prop} {E : Exn → Prop} {x y z u : Int} (ha : ∀ F : PyData → Prop, F (.int x) → wa ρ F E) (hb : ∀ F : PyData → Prop, F (.int y) → wb ρ F E) (hc : ∀ F : PyData → Prop, F (.int z) → wc ρ F E) (hd : ∀ F : PyData → Prop, F (.int u) → wd ρ F E) (h : Q (.bool (c1 x y && (c2 y z && c3 z u)))) : wCh3 (fC c1) (fC c2) (fC c3) wa wb wc wd ρ Q E := by
  refine ha _ (hb _ ?_)
  show (fun z' : PyData => match z' with
  | .bool true => wc ρ (fun w => fC c2 (.int y) w fun z'' => match z'' with
    | .bool true => wd ρ (fun u => fC c3 w u Q) E
    | .bool false => Q (.bool false)
    | _ => False) E
  | .bool false => Q (.bool false)
  | _ => False) (.bool (c1 x y))
  cases e : c1 x y with
  | false => rw [e] at h; exact h
  | true =>
    rw [e] at h
    refine hc _ ?_
    show (fun z' : PyData => match z' with
    | .bool true => wd ρ (fun u => fC c3 (.int z) u Q) E
    | .bool false => Q (.bool false)
    | _ => False) (.bool (c2 y z))
    cases e2 : c2 y z with
    | false => rw [e2] at h; exact h
    | true => rw [e2] at h; exact hd _ h
/-- doors that are no doors: (0, m) of one room -/
theorem k_check (a : Ad) (m : Int) (hm : 1 ≤ m) (Q : PyData → Prop) (E : Exn → Prop) (hE : E ⟨a.x_BadPlan, none⟩) : c_check_doors a [.sh (.int 1), .sh (.tuple [.tuple [.int 0, .int m]])] Q E := by
  show u_check_doors a [.sh (.int 1), .sh (.tuple [.tuple [.int 0, .int m]]), .un, .un, .un] _
  refine ⟨U.noown rfl, [some true], ⟨⟨rfl, rfl, ?_⟩, trivial⟩, hE⟩
  refine ⟨rfl, ?_⟩
  refine ch3_of (ρ := [.sh (.int 1), .sh (.tuple [.tuple [.int 0, .int m]]), .sh (.int 0), .sh (.int m), .un]) (wa := wC (.int 0)) (wb := wVar 2) (wc := wVar 3) (wd := wVar 0) (x := 0) (y := 0) (z := m) (u := 1) (fun _ h => h) (fun _ h => h) (fun _ h => h) (fun _ h => h) ?_
  show PyData.bool (!(decide ((0 : Int) ≤ 0) && (decide ((0 : Int) < m) && decide (m < 1)))) = .bool true
  rw [decide_eq_false (show ¬ m < 1 by omega), Bool.and_false, Bool.and_false]
  rfl
/-- no doors are doors -/
theorem k_checkN (a : Ad) (n : Int) (Q : PyData → Prop) (E : Exn → Prop) (hQ : Q .none) : c_check_doors a [.sh (.int n), .sh (.tuple [])] Q E := by
  show u_check_doors a [.sh (.int n), .sh (.tuple []), .un, .un, .un] _
  refine ⟨U.noown rfl, [], trivial, ?_⟩
  exact ⟨U.noown rfl, trivial, ⟨by decide, by decide⟩, [], trivial, hQ⟩
/-- nothing is beside -/
theorem k_beside (a : Ad) (x : Int) (Q : PyData → Prop) (E : Exn → Prop) (hQ : Q (.list [])) : c_beside a [.sh (.tuple []), .sh (.int x)] Q E := by
  show u_beside a [.sh (.tuple []), .sh (.int x), .un, .un] _
  refine ⟨U.noown rfl, ?_⟩
  show fSorted (.list (([] : List Int).map .int)) Q
  refine ⟨U.sort_side_ints [], ?_⟩
  rw [U.sort_ints, show ([] : List Int).mergeSort (fun a b => decide (a ≤ b)) = [] by simp]
  exact hQ
theorem sz_ok {n : Nat} (h : n ≤ 100000) : n ≤ sizeLine := U.le_size h
theorem k_far (a : Ad) (Q : PyData → Prop) (E : Exn → Prop) (hQ : Q (.tuple [.none, .int 0])) : c_far_from a [.sh (.int 2), .sh (.tuple []), .sh (.int 1)] Q E := by
  show u_far_from a [.sh (.int 2), .sh (.tuple []), .sh (.int 1), .un, .un, .un, .un] _
  refine ⟨rfl, k_checkN a 2 _ _ ?_⟩
  refine ⟨sz_ok (by show 1 ≤ _; omega), ⟨by omega, by omega, sz_ok (by show 1 * 2 ≤ _; omega)⟩, ?_⟩
  refine ⟨sz_ok (by show 1 ≤ _; omega), rfl, ?_⟩
  refine ⟨1, U.ixN_nat (by decide), ?_⟩
  refine ⟨2, ?_⟩
  conv => whnf
  refine ⟨rfl, k_beside a 1 _ _ ?_⟩
  exact hQ
/-- no way -/
theorem k_way (a : Ad) (Q : PyData → Prop) (E : Exn → Prop) (hE : E ⟨a.x_NoWay, none⟩) : c_first_way a [.sh (.int 2), .sh (.tuple []), .sh (.int 0), .sh (.int 1)] Q E := by
  show u_first_way a [.sh (.int 2), .sh (.tuple []), .sh (.int 0), .sh (.int 1), .un, .un, .un] _
  refine ⟨rfl, k_far a _ _ ?_⟩
  exact ⟨rfl, hE⟩
/-- too many rooms -/
theorem k_round (a : Ad) (m : Int) (hm : 1 ≤ m) (Q : PyData → Prop) (E : Exn → Prop) (hE : E ⟨a.x_TooLarge, none⟩) : c_shortest_round a [.sh (.int (9 + m)), .sh (.tuple []), .sh (.int 0)] Q E := by
  show u_shortest_round a [.sh (.int (9 + m)), .sh (.tuple []), .sh (.int 0), .un, .un, .un, .un, .un, .un, .un, .un, .un] _
  refine ⟨rfl, k_checkN a (9 + m) _ _ ?_⟩
  refine U.yesD (show (9 : Int) < 9 + m by omega) hE
/-- a deed that is not due -/
theorem k_put (a : Ad) (x y z : Int) (Q : PyData → Prop) (E : Exn → Prop) (hE : E ⟨a.x_BadDeed, none⟩) : c_rp a [.sh rgM, .sh (.tuple [.int x, .int y, .int z])] Q E := by
  show u_rp a [.sh rgM, .sh (.tuple [.int x, .int y, .int z])] _
  exact ⟨rfl, sz_ok (by show 3 ≤ _; omega), rfl, rfl, [.inl x, .inl y, .inl z], rfl, hE⟩
end M21
set_option Elab.async false
set_option linter.all false
set_option maxRecDepth 100000
set_option maxHeartbeats 1000000
namespace S10
open PySem PySem.Spec PyProof.Rows L2 PL HT TL
abbrev tx (l : List Nat) : Str := ⟨l.toArray⟩
theorem tx_len (l : List Nat) : (tx l).length = l.length := len_tl _
theorem tx_inj {l m : List Nat} (h : tx l = tx m) : l = m := by
  have := congrArg tl h
  exact this
theorem in_sign (c : Nat) (z : Str) : (!(Builtin.Str.occurrences z (tx [c]) 0 z.length 1).isEmpty) = decide (c ∈ z.cps.toList) := PySem.StrLaws.found_one z c
def FIG : List Nat := [48, 49, 50, 51, 52, 53, 54, 55, 56, 57]
theorem fig_tx : ("0123456789" : Str) = tx FIG := by decide +kernel
def isF (c : Nat) : Bool := decide (48 ≤ c) && decide (c ≤ 57)
theorem mem_FIG (c : Nat) : decide (c ∈ FIG) = isF c := by
  unfold isF FIG
  by_cases h : 48 ≤ c ∧ c ≤ 57
  · obtain ⟨h1, h2⟩ := h
    rw [decide_eq_true h1, decide_eq_true h2]
    rw [decide_eq_true]
    · rfl
    · simp only [List.mem_cons, List.not_mem_nil, or_false]; omega
  · rw [decide_eq_false]
    · by_cases h1 : 48 ≤ c
      · rw [decide_eq_true h1, decide_eq_false (fun z => h ⟨h1, z⟩)]; rfl
      · rw [decide_eq_false h1]; rfl
    · simp only [List.mem_cons, List.not_mem_nil, or_false]; omega
def s3 (n : Nat) : Str := repS "0" (3 - (Str.ofString (toString ((n : Nat) : Int))).length) ++ Str.ofString (toString ((n : Nat) : Int))
theorem num_tx (n : Nat) : Str.ofString (toString ((n : Nat) : Int)) = tx (numL n) := ext_tl (tl_num n)
theorem numL3 {n : Nat} (h : n < 1000) : List.replicate (3 - (numL n).length) 48 ++ numL n = [48 + n / 100, 48 + n / 10 % 10, 48 + n % 10] := by
  by_cases h1 : n < 10
  · rw [numL_lt h1]
    show [48, 48, 48 + n] = _
    rw [show n / 100 = 0 by omega, show n / 10 % 10 = 0 by omega, show n % 10 = n by omega]
  · rw [numL_step (by omega)]
    by_cases h2 : n < 100
    · rw [numL_lt (by omega)]
      show [48, 48 + n / 10, 48 + n % 10] = _
      rw [show n / 100 = 0 by omega, show n / 10 % 10 = n / 10 by omega]
    · rw [numL_step (by omega), numL_lt (by omega)]
      show [48 + n / 10 / 10, 48 + n / 10 % 10, 48 + n % 10] = _
      rw [show n / 10 / 10 = n / 100 by omega]
def num (d : Nat → Nat) (c : Nat) : List Nat := [48 + d 0, 48 + d 1, 48 + d 2, 48 + d 3, 46, 48 + d 4, 48 + d 5, 48 + d 6, 46, 48 + d 7, 48 + d 8, 48 + d 9, 45, c]
def hv (d : Nat → Nat) : Nat := 2 * d 0 + 3 * d 1 + 4 * d 2 + 5 * d 3 + 6 * d 4 + 7 * d 5 + 8 * d 6 + 9 * d 7 + 10 * d 8 + 11 * d 9
def FM : List Nat := [70, 70, 70, 70, 46, 70, 70, 70, 46, 70, 70, 70, 45, 67]
theorem FM_tx : ("FFFF.FFF.FFF-C" : Str) = tx FM := by decide +kernel
def okS (f c : Nat) : Bool := if f = 70 then isF c else if f = 46 ∨ f = 45 then decide (c = f) else true
def fb : List Nat → List Nat → Nat → Option Nat
  | [], _, _ => none
  | _ :: _, [], k => some k
  | f :: fs, c :: cs, k => if okS f c = true then fb fs cs (k + 1) else some k
theorem isF_dig {d : Nat} (h : d < 10) : isF (48 + d) = true := by simp [isF]; omega
end S10
set_option Elab.async false
set_option linter.all false
set_option maxRecDepth 100000
set_option maxHeartbeats 1000000
local macro_rules | `(tactic| walk_at "sz") => `(tactic| first | omega | (simp only [List.length_map, List.length_cons, List.length_nil, List.length_append, List.length_range, List.length_zipIdx] <;> omega))
local macro_rules | `(tactic| walk_at "pl") => `(tactic| first | exact U.pl_int _ | exact U.pl_str _ | exact U.pl_none | exact U.pl_bool _)
local macro_rules | `(tactic| walk_at "side") => `(tactic| first | exact True.intro | with_reducible exact rfl | exact U.le_size (by walk_at "sz") | exact U.lt_size (by walk_at "sz") | exact And.intro (by walk_at "pl") (by walk_at "pl") | exact And.intro (by walk_at "sz") (by walk_at "sz") | exact Or.inl (And.intro (by walk_at "sz") (by walk_at "sz")) | exact Or.inr (And.intro (by walk_at "sz") (by walk_at "sz")) | exact And.intro (by decide +kernel) (U.le_size (by walk_at "sz")) | walk_at "sz")
local macro_rules | `(tactic| walk_at "wp") => `(tactic| ((conv => whnf); (try dsimp only); repeat (refine And.intro (by walk_at "side") ?_; (conv => whnf); (try dsimp only))))
namespace M21
open PySem PySem.Spec PyProof.Rows L2 PL S10 HT TL
open PySem.W (Datum DatumOrd Tup)
abbrev XN (a : Ad) (k : Int) : Exn := ⟨a.x_BadNumber, some ("place", .int k)⟩
theorem in_fig (c : Nat) {Q : PyData → Prop} (h : Q (.bool (!isF c))) : fIn true (.str (tx [c])) (.str "0123456789") Q := by
  show Q (.bool (if true = true then !(!(Builtin.Str.occurrences ("0123456789" : Str) (tx [c]) 0 ("0123456789" : Str).length 1).isEmpty) else _))
  rw [if_pos rfl, in_sign, fig_tx, mem_FIG]
  exact h
theorem in_dots (c : Nat) {Q : PyData → Prop} (h : Q (.bool (decide (c = 46 ∨ c = 45)))) : fIn false (.str (tx [c])) (.str ".-") Q := by
  show Q (.bool (if false = true then _ else !(Builtin.Str.occurrences (".-" : Str) (tx [c]) 0 (".-" : Str).length 1).isEmpty))
  rw [if_neg (by decide), in_sign, show (".-" : Str) = tx [46, 45] by decide +kernel]
  have : decide (c ∈ (tx [46, 45]).cps.toList) = decide (c = 46 ∨ c = 45) := by simp
  rw [this]
  exact h
theorem t_fig {wa : PW} {ρ : En} {Q : Bool → Prop} {E : Exn → Prop} {c : Nat} (ha : ∀ F : PyData → Prop, F (.str (tx [c])) → wa ρ F E) (h : Q (!isF c)) : wT (w2 (fIn true) wa (wC (.str "0123456789"))) ρ Q E := ha _ (in_fig c (Q := fun d => match d with | .bool k => Q k | _ => False) h)
theorem t_dots {wa : PW} {ρ : En} {Q : Bool → Prop} {E : Exn → Prop} {c : Nat} (ha : ∀ F : PyData → Prop, F (.str (tx [c])) → wa ρ F E) (h : Q (decide (c = 46 ∨ c = 45))) : wT (w2 (fIn false) wa (wC (.str ".-"))) ρ Q E := ha _ (in_dots c (Q := fun d => match d with | .bool k => Q k | _ => False) h)
theorem eqv_tx (l m : List Nat) : PyData.eqv (.str (tx l)) (.str (tx m)) = decide (l = m) := by
  rw [U.eqv_str]
  by_cases h : l = m
  · rw [h, decide_eq_true rfl, decide_eq_true rfl]
  · rw [decide_eq_false h, decide_eq_false fun z => h (tx_inj z)]
theorem ix_tx {l : List Nat} {k c : Nat} (hl : l.length ≤ 1000) (h : l[k]? = some c) {Q : PyData → Prop} (hQ : Q (.str (tx [c]))) : fIx (.str (tx l)) (.int (k : Nat)) Q := by
  refine ⟨sz_ok (by rw [tx_len]; omega), ?_⟩
  rw [U.at_nat]
  show match l[k]? with | some c => _ | none => False
  rw [h]
  exact hQ
theorem fb_step {f : Nat} {fs : List Nat} {L : List Nat} {k c : Nat} (h : L[k]? = some c) : fb (f :: fs) (L.drop k) k = if okS f c = true then fb fs (L.drop (k + 1)) (k + 1) else some k := by
  have hk := (List.getElem?_eq_some_iff.mp h).1
  rw [List.drop_eq_getElem_cons hk]
  have : L[k] = c := by rw [List.getElem?_eq_getElem hk] at h; exact Option.some.inj h
  rw [this]
  rfl
def sgnB (a : Ad) : SW := (sIf (wOr (wAnd (wT (w2 (fEq false) (wRd 3) (wC (.str "F")))) (wT (w2 (fIn true) (wRd 4) (wC (.str "0123456789"))))) (wAnd (wT (w2 (fIn false) (wRd 3) (wC (.str ".-")))) (wT (w2 (fEq true) (wRd 4) (wRd 3))))) (sRaiseF a.x_BadNumber "place" (wVar 2)) sNil)
theorem p_signs (a : Ad) (L : List Nat) (hl : L.length ≤ 1000) (s5 : Sl) (D : PEn) (hE : ∀ k, fb FM L 0 = some k → D.ex (XN a k)) (hD : fb FM L 0 = none → ∀ s2 s3 s4, D.nx [.sh (.str (tx L)), .sh (.str (tx FM)), s2, s3, s4, s5]) (s2 s3 s4 : Sl) :
    goFor (gTupD 2 (gConsD (gNameD 2) (gConsD (gNameD 3) gNilD))) (sSeq (sIf (wT (w2 (fC fun i j => decide (j ≤ i)) (wRd 2) (w1 fLen (wRd 0)))) (sRaiseF a.x_BadNumber "place" (w1 fLen (wRd 0))) sNil)
 (sSeq (sSet 4 (w2 fIx (wRd 0) (wRd 2)))
 (sgnB a))) D (enumD (signsD (tx FM))) [.sh (.str (tx L)), .sh (.str (tx FM)), s2, s3, s4, s5] := by
  rw [show signsD (tx FM) = FM.map fun c => PyData.str (tx [c]) from rfl]
  refine U.for_enum (enc := fun c => PyData.str (tx [c])) FM (fun k ρ => fb FM L 0 = fb (FM.drop k) (L.drop k) k ∧ ∃ s2 s3 s4, ρ = [.sh (.str (tx L)), .sh (.str (tx FM)), s2, s3, s4, s5]) (fun k f ρ N hN hx hk hI => ?_) (fun ρ hI => ?_) _ ⟨rfl, _, _, _, rfl⟩
  · obtain ⟨e, s2, s3, s4, rfl⟩ := hI
    have eF : FM.drop k = f :: FM.drop (k + 1) := by
      rw [List.drop_eq_getElem_cons hk]
      rw [List.getElem?_eq_getElem hk] at hx
      rw [Option.some.inj hx]
    rw [eF] at e
    refine ⟨rfl, rfl, sz_ok (by rw [tx_len]; omega), ?_⟩
    rw [tx_len]
    refine U.brD (p := (L.length : Int) ≤ (k : Nat)) (fun c => ?_) (fun c => ?_)
    · have e2 : L.drop k = [] := List.drop_eq_nil_of_le (by omega)
      rw [e2] at e
      refine ⟨sz_ok (by rw [tx_len]; omega), ?_⟩
      rw [tx_len]
      have hE := hE k e
      have : L.length = k := by
        -- the first k signs stood
        by_cases z : k = 0
        · subst z; omega
        · by_cases z2 : L.length = k
          · exact z2
          · exfalso
            have key : ∀ (fs l : List Nat) (j : Nat), l.length < fs.length → fb fs l j ≠ none ∧ ∀ m, fb fs l j = some m → m ≤ j + l.length := by
              intro fs
              induction fs with
              | nil => intro l j h; simp at h
              | cons f fs ih =>
                intro l j h
                cases l with
                | nil => exact ⟨by simp [fb], fun m hm => by simp [fb] at hm; simp; omega⟩
                | cons c cs =>
                  simp only [fb]
                  split
                  · have := ih cs (j + 1) (by simpa using h)
                    refine ⟨this.1, fun m hm => ?_⟩
                    have := this.2 m hm
                    simp; omega
                  · exact ⟨by simp, fun m hm => by cases hm; simp⟩
            have h14 : FM.length = 14 := rfl
            have := (key FM L 0 (by omega)).2 k (by rw [e]; rfl)
            omega
      rw [this]
      exact hE
    · have hkl : k < L.length := by omega
      have hx2 : L[k]? = some L[k] := List.getElem?_eq_getElem hkl
      generalize L[k] = ch at hx2
      rw [fb_step hx2] at e
      have st : sgnB a [.sh (.str (tx L)), .sh (.str (tx FM)), .sh (.int (k : Nat)), .sh (.str (tx [f])), .sh (.str (tx [ch])), s5] { D with nx := N, ct := N, bk := D.nx } := ?_
      · have : fIx (.str (tx L)) (.int (k : Nat)) (fun d => sgnB a [.sh (.str (tx L)), .sh (.str (tx FM)), .sh (.int (k : Nat)), .sh (.str (tx [f])), .sh d, s5] { D with nx := N, ct := N, bk := D.nx }) := ix_tx hl hx2 st
        exact this
      have good : okS f ch = true → N [.sh (.str (tx L)), .sh (.str (tx FM)), .sh (.int (k : Nat)), .sh (.str (tx [f])), .sh (.str (tx [ch])), s5] := fun ok => by
        rw [if_pos ok] at e
        exact hN _ ⟨e, _, _, _, rfl⟩
      have bad : okS f ch = false → D.ex (XN a k) := fun ok => by
        rw [if_neg (by rw [ok]; decide)] at e
        exact hE k e
      refine ⟨⟨U.pl_str _, U.pl_str _⟩, ?_⟩
      rw [show ("F" : Str) = tx [70] by decide +kernel]
      have second : okS f ch = (if f = 70 then isF ch else if f = 46 ∨ f = 45 then decide (ch = f) else true) := rfl
      have dots : (f = 70 → isF ch = true) → (wAnd (wT (w2 (fIn false) (wRd 3) (wC (.str ".-")))) (wT (w2 (fEq true) (wRd 4) (wRd 3)))) [.sh (.str (tx L)), .sh (.str (tx FM)), .sh (.int (k : Nat)), .sh (.str (tx [f])), .sh (.str (tx [ch])), s5]
          (fun b => if b = true then D.ex (XN a k) else N [.sh (.str (tx L)), .sh (.str (tx FM)), .sh (.int (k : Nat)), .sh (.str (tx [f])), .sh (.str (tx [ch])), s5]) D.ex := fun h70 => by
        refine t_dots (c := f) (fun _ h => h) ?_
        refine U.brD (p := f = 46 ∨ f = 45) (fun c1 => ?_) (fun c1 => ?_)
        · refine ⟨⟨U.pl_str _, U.pl_str _⟩, ?_⟩
          have n70 : f ≠ 70 := by omega
          rw [if_neg n70, if_pos c1] at second
          refine U.br (b := !PyData.eqv (.str (tx [ch])) (.str (tx [f]))) (fun c2 => ?_) (fun c2 => ?_)
          · rw [eqv_tx] at c2
            exact bad (by rw [second]; simpa using c2)
          · rw [eqv_tx] at c2
            exact good (by rw [second]; simpa using c2)
        · refine good ?_
          rw [second]
          by_cases z : f = 70
          · rw [if_pos z]; exact h70 z
          · rw [if_neg z, if_neg c1]
      refine U.br (b := PyData.eqv (.str (tx [f])) (.str (tx [70]))) (fun c1 => ?_) (fun c1 => ?_)
      · rw [eqv_tx] at c1
        have e70 : f = 70 := by simpa using c1
        refine t_fig (c := ch) (fun _ h => h) ?_
        cases c2 : isF ch with
        | false => exact bad (by rw [second, if_pos e70]; exact c2)
        | true => exact dots fun _ => c2
      · rw [eqv_tx] at c1
        have n70 : f ≠ 70 := by simpa using c1
        exact dots fun z => absurd z n70
  · obtain ⟨e, s2, s3, s4, rfl⟩ := hI
    exact hD (by rw [e]; rfl) _ _ _
theorem p_read_bad (a : Ad) (L : List Nat) (hl : L.length ≤ 1000) (k : Nat) (hk : fb FM L 0 = some k) (Q : PyData → Prop) (E : Exn → Prop) (h : E (XN a k)) : c_read a [.sh (.str (tx L))] Q E := by
  show u_read a [.sh (.str (tx L)), .un, .un, .un, .un, .un] _
  unfold u_read
  rw [FM_tx]
  exact ⟨trivial, p_signs a L hl .un _ (fun m hm => by rw [hk] at hm; cases hm; exact h) (fun z => by rw [hk] at z; cases z) _ _ _⟩
theorem dig_ok {d : Nat} (h : d < 10) : okS 70 (48 + d) = true := by
  show (if (70 : Nat) = 70 then isF (48 + d) else _) = true
  rw [if_pos rfl]
  exact isF_dig h
theorem fb_num1 {n : Nat} (h : n < 1000) : ∃ k, fb FM (numL n) 0 = some k := by
  by_cases h1 : n < 10
  · rw [numL_lt h1]
    refine ⟨1, ?_⟩
    show (if okS 70 (48 + n) = true then some 1 else some 0) = some 1
    rw [if_pos (dig_ok h1)]
  · rw [numL_step (by omega)]
    by_cases h2 : n < 100
    · rw [numL_lt (by omega)]
      refine ⟨2, ?_⟩
      show (if okS 70 (48 + n / 10) = true then (if okS 70 (48 + n % 10) = true then some 2 else some 1) else some 0) = some 2
      rw [if_pos (dig_ok (by omega)), if_pos (dig_ok (by omega))]
    · rw [numL_step (by omega), numL_lt (by omega)]
      refine ⟨3, ?_⟩
      show (if okS 70 (48 + n / 10 / 10) = true then (if okS 70 (48 + n / 10 % 10) = true then (if okS 70 (48 + n % 10) = true then some 3 else some 2) else some 1) else some 0) = some 3
      rw [if_pos (dig_ok (by omega)), if_pos (dig_ok (by omega)), if_pos (dig_ok (by omega))]
/-- a short text of figures is no number -/
theorem k_read (a : Ad) (n : Nat) (hn : n < 1000) (Q : PyData → Prop) (E : Exn → Prop) (hE : ∀ k : Int, E (XN a k)) : c_read a [.sh (.str (Str.ofString (toString ((n : Nat) : Int))))] Q E := by
  rw [num_tx]
  obtain ⟨k, hk⟩ := fb_num1 hn
  refine p_read_bad a _ ?_ k hk Q E (hE k)
  have : (Str.ofString (toString ((n : Nat) : Int))).length = (numL n).length := by rw [num_tx, tx_len]
  have e3 := congrArg List.length (numL3 hn)
  rw [List.length_append, List.length_replicate] at e3
  have : (3 - (numL n).length) + (numL n).length = 3 := e3
  omega
end M21
set_option Elab.async false
set_option linter.all false
set_option maxRecDepth 100000
set_option maxHeartbeats 1000000
namespace M21
open PySem PySem.Spec PyProof.Rows L2 PL
local macro_rules | `(tactic| walk_at "sz") => `(tactic| first | omega | (simp only [List.length_map, List.length_cons, List.length_nil, List.length_append, List.length_range, List.length_zipIdx] <;> omega))
local macro_rules | `(tactic| walk_at "pl") => `(tactic| first | exact U.pl_int _ | exact U.pl_str _ | exact U.pl_none | exact U.pl_bool _)
local macro_rules | `(tactic| walk_at "side") => `(tactic| first | exact True.intro | with_reducible exact rfl | exact U.le_size (by walk_at "sz") | exact U.lt_size (by walk_at "sz") | exact And.intro (by walk_at "pl") (by walk_at "pl") | exact And.intro (by walk_at "sz") (by walk_at "sz") | exact Or.inl (And.intro (by walk_at "sz") (by walk_at "sz")) | exact Or.inr (And.intro (by walk_at "sz") (by walk_at "sz")) | exact And.intro (by decide +kernel) (U.le_size (by walk_at "sz")) | walk_at "sz")
local macro_rules | `(tactic| walk_at "wp") => `(tactic| ((conv => whnf); (try dsimp only); repeat (refine And.intro (by walk_at "side") ?_; (conv => whnf); (try dsimp only))))
def pI (x y : Int) : PyData := .tuple [.int x, .int y]
theorem f_mn (n : Nat) (h : 1 ≤ n) {Q : PyData → Prop} (hQ : Q (.int 0)) : fMin (pI n 0) Q := U.p_min ((n : Nat) : Int) [(0 : Int)] (Q := Q) (by
    have e : PySem.W.minOf ((n : Nat) : Int) [(0 : Int)] = 0 := by
      show (if decide ((0 : Int) < ((n : Nat) : Int)) = true then (0 : Int) else ((n : Nat) : Int)) = 0
      rw [decide_eq_true (by omega), if_pos rfl]
    rw [e]
    exact hQ)
theorem f_mx (n : Nat) {Q : PyData → Prop} (hQ : Q (.int n)) : fMax (pI n 0) Q := U.p_max ((n : Nat) : Int) [(0 : Int)] (Q := Q) (by
    have e : PySem.W.maxOf ((n : Nat) : Int) [(0 : Int)] = n := by
      show (if decide (((n : Nat) : Int) < (0 : Int)) = true then (0 : Int) else ((n : Nat) : Int)) = n
      rw [decide_eq_false (by omega), if_neg (by decide)]
    rw [e]
    exact hQ)
theorem f_sort1 (x y : Int) {Q : PyData → Prop} (hQ : Q (.list [pI x y])) : fSorted (.list [pI x y]) Q := by
  refine ⟨⟨rfl, fun d hd => ?_, PySem.W.AllAlike.of (enc := fun p : Int × Int => pI p.1 p.2) (bs := [(x, y)]) fun _ _ => rfl, PySem.W.Sortable.tuples (enc := fun p : Int × Int => pI p.1 p.2) (bs := [(x, y)]) fun b => ⟨_, _, rfl⟩⟩, ?_⟩
  · rw [List.mem_singleton.mp hd]; exact (by decide : 1 ≤ 30)
  · rw [show [pI x y].mergeSort (PySem.W.dataLe false id) = [pI x y] by simp]
    exact hQ
def bL (a : Ad) : SW := (sSeq (sParN [5, 6] (wbDk (wbOl (wLst (wCons (wC (.int 0)) wNil)) wpNil)))
 (sSeq (sWh (wT (w2 (fEq true) (wRd 6) (wLst wNil))) (sSeq (sPop 7 6)
 (sIf (wT (wDIn true 5 (wVar 7))) (sSeq (sPut 5 (wVar 7) (wC (.bool true)))
 (sExt 6 (wLc (wItT (wVar 4)) (gTupD 2 (gConsD (gNameD 9) (gConsD (gNameD 10) gNilD))) (wT (w2 (fEq false) (wRd 9) (wRd 7))) (wVar 10) [9, 10]))) sNil)))
 (sIf (wT (wDIn true 5 (wVar 3))) (sRaiseF a.x_BadPaper "part" (wVar 3)) sNil)))
def eL (x : Int) (w : List PyData) (s5 s6 s7 : Sl) : En := [.sh (.int 2), .sh (.tuple [pI 0 1]), .sh (.tuple [pI 1 0]), .sh (.int x), .sh (.tuple w), s5, s6, s7, .un, .un, .un]
theorem L1 (a : Ad) (x : Int) (s5 s6 s7 : Sl) (D : PEn) (h : (if (!(lookK [((.inl 0 : Key), PyData.bool true)] (.inl x)).isSome) = true then D.ex ⟨a.x_BadPaper, some ("part", .int x)⟩ else D.nx (eL x [pI 1 0] (.ok [(.inl 0, .bool true)]) (.ol []) (.sh (.int 0))))) : bL a (eL x [pI 1 0] s5 s6 s7) D := by
  refine ⟨sz_ok (by show 1 ≤ _; omega), rfl, 3, Nat.zero_le _, ⟨⟨rfl, by decide⟩, ⟨rfl, by decide⟩⟩, ?_⟩
  refine ⟨.inl 0, rfl, U.lt_size (by show 0 ≤ _; omega), U.noown rfl, rfl, rfl, ⟨⟨rfl, by decide⟩, ⟨rfl, by decide⟩⟩, sz_ok (by show 0 ≤ _; omega), sz_ok (by show 0 ≤ _; omega), ⟨⟨rfl, by decide⟩, ⟨rfl, by decide⟩⟩, ?_⟩
  exact h
theorem L2' (a : Ad) (x : Int) (s5 s6 s7 : Sl) (D : PEn) (h : (if (!(lookK [((.inl 0 : Key), PyData.bool true), ((.inl 1 : Key), PyData.bool true)] (.inl x)).isSome) = true then D.ex ⟨a.x_BadPaper, some ("part", .int x)⟩ else D.nx (eL x [pI 0 1] (.ok [(.inl 0, .bool true), (.inl 1, .bool true)]) (.ol []) (.sh (.int 1))))) : bL a (eL x [pI 0 1] s5 s6 s7) D := by
  refine ⟨sz_ok (by show 1 ≤ _; omega), rfl, 4, Nat.zero_le _, ⟨⟨rfl, by decide⟩, ⟨rfl, by decide⟩⟩, ?_⟩
  refine ⟨.inl 0, rfl, U.lt_size (by show 0 ≤ _; omega), U.noown rfl, rfl, rfl, ⟨⟨rfl, by decide⟩, ⟨rfl, by decide⟩⟩, U.lt_size (by show 0 ≤ _; omega), sz_ok (by show 1 ≤ _; omega), sz_ok (by show 0 ≤ _; omega), ⟨⟨rfl, by decide⟩, ⟨rfl, by decide⟩⟩, ?_⟩
  refine ⟨.inl 1, rfl, U.lt_size (by show 1 ≤ _; omega), U.noown rfl, rfl, rfl, ⟨⟨rfl, by decide⟩, ⟨rfl, by decide⟩⟩, sz_ok (by show 0 ≤ _; omega), sz_ok (by show 0 ≤ _; omega), ⟨⟨rfl, by decide⟩, ⟨rfl, by decide⟩⟩, ?_⟩
  exact h
theorem k_look (a : Ad) (n : Nat) (hn : 1 ≤ n) (Q : PyData → Prop) (E : Exn → Prop) (hE : ∀ k : Int, E ⟨a.x_BadPaper, some ("part", .int k)⟩) : c_look_signs a [.sh (.int 2), .sh (.tuple [pI 0 1]), .sh (.tuple [pI n 0])] Q E := by
  show u_look_signs a [.sh (.int 2), .sh (.tuple [pI 0 1]), .sh (.tuple [pI n 0]), .un, .un, .un, .un, .un, .un, .un, .un] _
  have mn1 := (f_mn n hn (Q := fun d => d = .int 0) rfl)
  have mx1 := (f_mx n (Q := fun d => d = .int (n : Nat)) rfl)
  have so1 := (f_sort1 0 n (Q := fun d => d = .list [pI 0 (n : Nat)]) rfl)
  refine ⟨U.noown rfl, mn1.1, ?_⟩
  rw [show PySem.W.minD (.int (n : Nat)) [.int 0] = .int 0 from mn1.2]
  refine ⟨mx1.1, ?_⟩
  rw [show PySem.W.maxD (.int (n : Nat)) [.int 0] = .int (n : Nat) from mx1.2]
  refine ⟨sz_ok (by show 2 ≤ _; omega), U.lt_size (by show 0 ≤ _; omega), ?_⟩
  refine ⟨so1.1, ?_⟩
  have so2 : PyData.list (List.mergeSort (([] : List PyData) ++ [PyData.tuple [PyData.int 0, PyData.int ((n : Nat) : Int)]]) (PySem.W.dataLe false id)) = .list [pI 0 (n : Nat)] := so1.2
  rw [so2]
  refine ⟨⟨⟨rfl, by show 2 ≤ 30; decide⟩, ⟨rfl, by show 2 ≤ 30; decide⟩⟩, ?_⟩
  refine U.brNe [((0 : Int), ((n : Nat) : Int))] [((0 : Int), (1 : Int))] (fun _ => hE 0) (fun e => ?_)
  have e1 : n = 1 := by
    have := (Prod.mk.inj (List.cons.inj e).1).2
    omega
  subst e1
  clear mn1 mx1 so1 so2 e
  refine ⟨⟨by decide, by decide⟩, ?_⟩
  refine ⟨U.noown rfl, rfl, rfl, sz_ok (by show 2 ≤ _; omega), U.lt_size (by show 0 ≤ _; omega), sz_ok (by show 2 ≤ _; omega), ?_⟩
  show bL a (eL 0 [pI 1 0] .un .un .un) _
  refine L1 a 0 _ _ _ _ (U.no rfl ?_)
  show bL a (eL 0 [pI 0 1] (.ok [(.inl 0, .bool true)]) (.ol []) (.sh (.int 0))) _
  refine L2' a 0 _ _ _ _ (U.no rfl ?_)
  refine ⟨U.noown rfl, rfl, rfl, sz_ok (by show 2 ≤ _; omega), U.lt_size (by show 0 ≤ _; omega), sz_ok (by show 2 ≤ _; omega), ?_⟩
  show bL a (eL 1 [pI 1 0] (.ok [(.inl 0, .bool true), (.inl 1, .bool true)]) (.ol []) (.sh (.int 1))) _
  exact L1 a 1 _ _ _ _ (U.yes rfl (hE 1))
end M21
set_option Elab.async false
set_option linter.all false
set_option maxRecDepth 100000
set_option maxHeartbeats 1000000
namespace M21
open PySem PySem.Spec PyProof.Rows L2 PL
local macro_rules | `(tactic| walk_at "sz") => `(tactic| first | omega | (simp only [List.length_map, List.length_cons, List.length_nil, List.length_append, List.length_range, List.length_zipIdx] <;> omega))
local macro_rules | `(tactic| walk_at "pl") => `(tactic| first | exact U.pl_int _ | exact U.pl_str _ | exact U.pl_none | exact U.pl_bool _)
local macro_rules | `(tactic| walk_at "side") => `(tactic| first | exact True.intro | with_reducible exact rfl | exact U.le_size (by walk_at "sz") | exact U.lt_size (by walk_at "sz") | exact And.intro (by walk_at "pl") (by walk_at "pl") | exact And.intro (by walk_at "sz") (by walk_at "sz") | exact Or.inl (And.intro (by walk_at "sz") (by walk_at "sz")) | exact Or.inr (And.intro (by walk_at "sz") (by walk_at "sz")) | exact And.intro (by decide +kernel) (U.le_size (by walk_at "sz")) | walk_at "sz")
local macro_rules | `(tactic| walk_at "wp") => `(tactic| ((conv => whnf); (try dsimp only); repeat (refine And.intro (by walk_at "side") ?_; (conv => whnf); (try dsimp only))))
abbrev eW (m : Int) (fs : List Addr) (s5 s6 : Sl) : En := [.un, .dice, .sh (.int m), .sh rgM, .sh (.list (fs.map mk)), s5, s6]
def ans (k : Nat) : List Bool := ((List.range 6).map fun j => decide (j = k)) ++ [true]
/-- each of the six is refused by its own class -/
theorem k_six (a : Ad) (n : Nat) (h1 : 1 ≤ n) (h9 : n ≤ 900) (fs : List Addr) (s5 s6 : Sl) (k : Nat) (hk : k < 6) (Q : List Bool → Prop) (hQ : Q (ans k)) (F : PyData → Prop) :
    ∃ w, (ws7 a)[k]? = some w ∧ w (eW n fs s5 s6) F fun x => ∃ bs, (x.cls, bs) ∈ tbl7 a ∧ Q bs := by
  match k, hk with
  | 0, _ =>
    refine ⟨_, rfl, sz_ok (by show 2 ≤ _; omega), sz_ok (by show 1 ≤ _; omega), rfl, ?_⟩
    exact k_check a n (by omega) _ _ ⟨_, List.mem_cons_self, hQ⟩
  | 1, _ =>
    refine ⟨_, rfl, sz_ok (by show 0 ≤ _; omega), rfl, ?_⟩
    exact k_way a _ _ ⟨_, List.mem_cons_of_mem _ List.mem_cons_self, hQ⟩
  | 2, _ =>
    refine ⟨_, rfl, ?_, rfl, ?_⟩
    · show ((n : Nat) : Int).natAbs.log2 < 1920
      rw [Int.natAbs_natCast]
      exact Nat.lt_of_le_of_lt (Nat.log2_le_self n) (by omega)
    · exact k_read a n (by omega) _ _ fun j => ⟨_, List.mem_cons_of_mem _ (List.mem_cons_of_mem _ List.mem_cons_self), hQ⟩
  | 3, _ =>
    refine ⟨_, rfl, sz_ok (by show 2 ≤ _; omega), sz_ok (by show 1 ≤ _; omega), sz_ok (by show 2 ≤ _; omega), sz_ok (by show 1 ≤ _; omega), rfl, ?_⟩
    exact k_look a n h1 _ _ fun j => ⟨_, List.mem_cons_of_mem _ (List.mem_cons_of_mem _ (List.mem_cons_of_mem _ List.mem_cons_self)), hQ⟩
  | 4, _ =>
    refine ⟨_, rfl, sz_ok (by show 0 ≤ _; omega), rfl, ?_⟩
    exact k_round a n (by omega) _ _ ⟨_, List.mem_cons_of_mem _ (List.mem_cons_of_mem _ (List.mem_cons_of_mem _ (List.mem_cons_of_mem _ List.mem_cons_self))), hQ⟩
  | 5, _ =>
    refine ⟨_, rfl, rfl, sz_ok (by show 3 ≤ _; omega), rfl, ?_⟩
    exact k_put a 1900 0 n _ _ ⟨_, List.mem_cons_of_mem _ (List.mem_cons_of_mem _ (List.mem_cons_of_mem _ (List.mem_cons_of_mem _ (List.mem_cons_of_mem _ List.mem_cons_self)))), hQ⟩
theorem eqv_int (x y : Int) : PyData.eqv (.int x) (.int y) = decide (x = y) := U.eqv_int x y
/-- one turn of the inner loop -/
theorem k_turn (a : Ad) (n : Nat) (h1 : 1 ≤ n) (h9 : n ≤ 900) (fs : List Addr) (hl : fs.length = 6) (s6 : Sl) (k : Nat) (hk : k < 6) (hs6 : s6.owned = false) (D : PEn) (h : D.nx (eW n fs (.sh (.int (k : Nat))) s6)) :
    sIf (wT (w2 (fEq true) (wToldV fs (ws7 a) (tbl7 a) (w2 fIx (wRd 4) (wRd 5))) (w2 fCat (wLc (wRng1 (wCons (wC (.int 6)) wNil)) (gNameD 6) wYes (w2 (fEq false) (wRd 6) (wRd 5)) [6]) (wLst (wCons (wC (.bool true)) wNil))))) (sRet (wC (.bool false))) sNil (eW n fs (.sh (.int (k : Nat))) s6) D := by
  have hk2 : k < fs.length := by omega
  have no6 : NoOwn [6] (eW n fs (.sh (.int (k : Nat))) s6) := U.noown (by show (!s6.owned && true) = true; rw [hs6]; rfl)
  have e0 : (fs.map mk)[k]? = some (mk fs[k]) := by rw [List.getElem?_map, List.getElem?_eq_getElem hk2]; rfl
  have right : w2 fCat (wLc (wRng1 (wCons (wC (.int 6)) wNil)) (gNameD 6) wYes (w2 (fEq false) (wRd 6) (wRd 5)) [6]) (wLst (wCons (wC (.bool true)) wNil)) (eW n fs (.sh (.int (k : Nat))) s6) (fun y => fEq true (.list ((ans k).map .bool)) y fun d => match d with
      | .bool b => (if b = true then sRet (wC (.bool false)) (eW n fs (.sh (.int (k : Nat))) s6) D else sNil (eW n fs (.sh (.int (k : Nat))) s6) D)
      | _ => False) D.ex := by
    refine ⟨no6, ⟨by decide, by decide⟩, ?_⟩
    rw [show ((6 : Int)).toNat = 6 from rfl, U.range0]
    refine U.lc_map (enc := fun j : Nat => PyData.int (j : Nat)) (enco := PyData.bool) (List.range 6) (fun j => decide (j = k)) (fun j hj Y hY => ?_) (by rw [List.length_range]; omega) ?_
    · refine ⟨⟨U.pl_int _, U.pl_int _⟩, ?_⟩
      show Y (.bool (PyData.eqv (.int (j : Nat)) (.int (k : Nat))))
      rw [U.eqv_int, show decide (((j : Nat) : Int) = (k : Nat)) = decide (j = k) from decide_eq_decide.mpr (by omega)]
      exact hY
    · refine ⟨sz_ok (by show 1 ≤ _; omega), sz_ok (by simp), ?_⟩
      have e : ((List.range 6).map fun j => decide (j = k)).map PyData.bool ++ [PyData.bool true] = (ans k).map .bool := by
        unfold ans
        rw [List.map_append]
        rfl
      show fEq true (.list ((ans k).map .bool)) (.list (((List.range 6).map fun j => decide (j = k)).map PyData.bool ++ [PyData.bool true])) _
      rw [e]
      exact ⟨⟨U.PlD (ans k), U.PlD (ans k)⟩, U.brNe (ans k) (ans k) (fun z => absurd rfl z) fun _ => h⟩
  have st : ∀ R : PyData → Prop, R (.list ((ans k).map .bool)) → fIx (.list (fs.map mk)) (.int (k : Nat)) (fun d => ∃ (j : Nat) (f : Addr) (w : PW), d = mk f ∧ fs[j]? = some f ∧ (ws7 a)[j]? = some w ∧ w (eW n fs (.sh (.int (k : Nat))) s6) (fun _ => R (.list [])) fun x => ∃ bs, (x.cls, bs) ∈ tbl7 a ∧ R (.list (bs.map .bool))) := fun R hR => by
    unfold fIx
    dsimp only
    rw [U.at_nat, e0]
    obtain ⟨w, hw, hq⟩ := k_six a n h1 h9 fs (.sh (.int (k : Nat))) s6 k hk (fun bs => R (.list (bs.map .bool))) hR fun _ => R (.list [])
    exact ⟨k, fs[k], w, rfl, List.getElem?_eq_getElem hk2, hw, hq⟩
  exact st (fun x => w2 fCat (wLc (wRng1 (wCons (wC (.int 6)) wNil)) (gNameD 6) wYes (w2 (fEq false) (wRd 6) (wRd 5)) [6]) (wLst (wCons (wC (.bool true)) wNil)) (eW n fs (.sh (.int (k : Nat))) s6) (fun y => fEq true x y fun d => match d with
      | .bool b => (if b = true then sRet (wC (.bool false)) (eW n fs (.sh (.int (k : Nat))) s6) D else sNil (eW n fs (.sh (.int (k : Nat))) s6) D)
      | _ => False) D.ex) right
theorem law_body (a : Ad) : u_law a ((uns N_law.length).set 1 .dice) (lawEnd N_law.length) := by
  show u_law a [.un, .dice, .un, .un, .un, .un, .un] (lawEnd 7)
  refine ⟨rfl, rfl, p_roll a 900 _ _ (by decide) (by decide) fun r h0 h1 => ?_⟩
  obtain ⟨n, rfl⟩ : ∃ n : Nat, r = n := ⟨r.toNat, by omega⟩
  refine ⟨rfl, fun fs hl => ?_⟩
  have e1 : (1 : Int) + (n : Nat) = ((n + 1 : Nat) : Int) := by omega
  rw [e1]
  show sFor _ _ _ (eW ((n + 1 : Nat) : Int) fs .un .un) _
  refine ⟨⟨?_, ?_⟩, ?_⟩
  · rw [List.length_map, hl]; decide
  · rw [List.length_map, hl]; decide
  · rw [List.length_map, hl, show ((6 : Nat) : Int).toNat = 6 from rfl]
    refine U.for_rng 6 (fun k ρ => ∃ s5, ρ = eW ((n + 1 : Nat) : Int) fs s5 .un) (fun k ρ N hN hk hI => ?_) (fun ρ hI => ?_) _ ⟨_, rfl⟩
    · obtain ⟨s5, rfl⟩ := hI
      exact k_turn a (n + 1) (by omega) (by omega) fs hl .un k hk rfl _ (hN _ ⟨_, rfl⟩)
    · obtain ⟨s5, rfl⟩ := hI
      rfl
theorem pure_law (a : Ad) (ns : List Int) (h : ns.length ≤ 63) : i_law a (.scr ns :: uns (N_law.length - 1)) (fun d => ∃ ds, d = .list ds ∧ Triples ds ∧ u_law a ((uns N_law.length).set 1 .dice) (lawEnd N_law.length)) (fun _ => False) :=
  ⟨ns, rfl, rfl, p_rounds a ns 3 h _ _ fun ds t => ⟨ds, rfl, t, law_body a⟩⟩
end M21
set_option Elab.async false
set_option linter.all false
set_option maxRecDepth 100000
namespace PL
open PySem PySem.Spec PyProof.Rows
/-- a hook that tells of more tables that they are empty -/
def moreTabs (ps : List Addr) (H : PySem.W.Hook) : PySem.W.Hook where
  α := H.α × List (Option Obj)
  obs := fun s => (H.obs s, ps.map s.heap.get?)
  val := fun w => (H.val w, ps.map fun _ => some { cls := .none, data := .fields #[] })
  says := fun w h => H.says w h ∧ ∀ P ∈ ps, h.get? P = some { cls := .none, data := .fields #[] }
  of := fun w s x => ⟨H.of w s (Prod.mk.inj x).1, List.map_inj_left.mp (Prod.mk.inj x).2⟩
  keeps := fun w h h' x k => ⟨H.keeps w h h' x.1 k, fun P hP => k _ _ (x.2 P hP)⟩
end PL
set_option Elab.async false
set_option linter.all false
set_option maxRecDepth 100000
namespace M21
open PySem PySem.Spec PyProof.Rows L2 PL
theorem fin {l : PySem.W.OpenLaw} {w : World} {K : PySem.W.Frag} {h : Heap} {mg : Str → Option Value} {q : Program} {fa : Addr} (X : K.In h) (G : h.Ns mainGlobals mg) (hfa : mg "law" = some (.ref fa)) (tabs : ∀ (y : Str) (f : Addr), ((recsOf q).any fun e => e.name == y) = true → mg y = some (.ref f) → LamX.OwnTab K f h)
    (hl : l.prog = PySem.Challenge.pw_museum_k21_refusals_apart) (hq : ∀ y ∈ [("check_doors" : Str), ("check_of" : Str), ("is_thing" : Str), ("law" : Str)], ((recsOf q).any fun e => e.name == y) = true)
    {f0 c0 : Addr} {oc0 kV0 dc0 pm0 ct0 : Value} {od0 an0 : Option Addr} {sl0 : Array (Option Value)}
    {p0 : Addr} {te0 : Value} {td0 : Option Addr} {tv0 : Array Value} {ts0 : Array (Option Value)}
    {f1 c1 : Addr} {oc1 kV1 dc1 pm1 ct1 : Value} {od1 an1 : Option Addr} {sl1 : Array (Option Value)}
    {f2 c2 : Addr} {oc2 kV2 dc2 pm2 ct2 : Value} {od2 an2 : Option Addr} {sl2 : Array (Option Value)}
    {f3 c3 : Addr} {oc3 kV3 dc3 pm3 ct3 : Value} {od3 an3 : Option Addr} {sl3 : Array (Option Value)}
    {f4 c4 : Addr} {oc4 kV4 dc4 pm4 ct4 : Value} {od4 an4 : Option Addr} {sl4 : Array (Option Value)}
    {f5 c5 : Addr} {oc5 kV5 dc5 pm5 ct5 : Value} {od5 an5 : Option Addr} {sl5 : Array (Option Value)}
    {f6 c6 : Addr} {oc6 kV6 dc6 pm6 ct6 : Value} {od6 an6 : Option Addr} {sl6 : Array (Option Value)}
    {f7 c7 : Addr} {oc7 kV7 dc7 pm7 ct7 : Value} {od7 an7 : Option Addr} {sl7 : Array (Option Value)}
    {f8 c8 : Addr} {oc8 kV8 dc8 pm8 ct8 : Value} {od8 an8 : Option Addr} {sl8 : Array (Option Value)}
    {p8 : Addr} {te8 : Value} {td8 : Option Addr} {tv8 : Array Value} {ts8 : Array (Option Value)}
    {f9 c9 : Addr} {oc9 kV9 dc9 pm9 ct9 : Value} {od9 an9 : Option Addr} {sl9 : Array (Option Value)}
    {p9 : Addr} {te9 : Value} {td9 : Option Addr} {tv9 : Array Value} {ts9 : Array (Option Value)}
    {f10 c10 : Addr} {oc10 kV10 dc10 pm10 ct10 : Value} {od10 an10 : Option Addr} {sl10 : Array (Option Value)}
    {f11 c11 : Addr} {oc11 kV11 dc11 pm11 ct11 : Value} {od11 an11 : Option Addr} {sl11 : Array (Option Value)}
    {f12 c12 : Addr} {oc12 kV12 dc12 pm12 ct12 : Value} {od12 an12 : Option Addr} {sl12 : Array (Option Value)}
    {f13 c13 : Addr} {oc13 kV13 dc13 pm13 ct13 : Value} {od13 an13 : Option Addr} {sl13 : Array (Option Value)}
    {f14 c14 : Addr} {oc14 kV14 dc14 pm14 ct14 : Value} {od14 an14 : Option Addr} {sl14 : Array (Option Value)}
    {f15 c15 : Addr} {oc15 kV15 dc15 pm15 ct15 : Value} {od15 an15 : Option Addr} {sl15 : Array (Option Value)}
    {p15 : Addr} {te15 : Value} {td15 : Option Addr} {tv15 : Array Value} {ts15 : Array (Option Value)}
    {x0 : Addr}
    {x1 : Addr}
    {x2 : Addr}
    {x3 : Addr}
    {x4 : Addr}
    {x5 : Addr}
    {x6 : Addr}
    {fi0 ci0 cci0 : Addr} {oci0 kVi0 dci0 pmi0 cti0 cli0 cxi0 : Value} {odi0 ani0 cdi0 cyi0 : Option Addr} {sli0 csi0 czi0 : Array (Option Value)} {vi0 : Array Value} {fli0 : Str} {tfi0 : Tok} {nmi0 qni0 : Str} {Ni0 : Addr} {bsi0 bmi0 subi0 : List Value} {sni0 : List Str} {abi0 : Bool} {coli0 : Option Bool} {ddi0 : Option Addr} {k0i0 k1i0 k2i0 k3i0 k5i0 : Option Value}
    {fi1 ci1 cci1 : Addr} {oci1 kVi1 dci1 pmi1 cti1 cli1 cxi1 : Value} {odi1 ani1 cdi1 cyi1 : Option Addr} {sli1 csi1 czi1 : Array (Option Value)} {vi1 : Array Value} {fli1 : Str} {tfi1 : Tok} {nmi1 qni1 : Str} {Ni1 : Addr} {bsi1 bmi1 subi1 : List Value} {sni1 : List Str} {abi1 : Bool} {coli1 : Option Bool} {ddi1 : Option Addr} {k0i1 k1i1 k2i1 k3i1 k5i1 : Option Value}
    {tk_FIGURES : Tok}
    {CR p_ri : Addr} {te_ri : Value} {td_ri : Option Addr} {tv_ri : Array Value} {ts_ri : Array (Option Value)}
    {f_ri c_ri : Addr} {oc_ri kV_ri dc_ri pm_ri ct_ri : Value} {od_ri an_ri : Option Addr} {sl_ri : Array (Option Value)}
    {f_rp c_rp : Addr} {oc_rp kV_rp dc_rp pm_rp ct_rp : Value} {od_rp an_rp : Option Addr} {sl_rp : Array (Option Value)}
    {f_rg c_rg : Addr} {oc_rg kV_rg dc_rg pm_rg ct_rg : Value} {od_rg an_rg : Option Addr} {sl_rg : Array (Option Value)}
    (a0 : PySem.W.nsIn K mainGlobals "check_doors" = some (some (.ref f0)))
    (l0 : K.lookup f0 = some ⟨oc0, od0, .func (PySem.W.fnOf "check_doors" "check_doors" (defArgs s_check_doors) (defBody s_check_doors) (defScope s_check_doors) .none kV0 dc0 pm0 an0 (.ref c0) ct0), sl0⟩)
    (h0 : PySem.W.codeIn K (.ref c0) "check_doors" = true)
    (k0 : PySem.W.keepIn K (.ref f0) = true)
    (t0 : K.lookup c0 = some ⟨te0, td0, .fields tv0, ts0⟩)
    (u0 : tv0[11]? = some (.ref p0))
    (v0 : PySem.W.codeHdIn K c0 p0 = true)
    (w0 : K.lookup p0 = none)
    (a1 : PySem.W.nsIn K mainGlobals "beside" = some (some (.ref f1)))
    (l1 : K.lookup f1 = some ⟨oc1, od1, .func (PySem.W.fnOf "beside" "beside" (defArgs s_beside) (defBody s_beside) (defScope s_beside) .none kV1 dc1 pm1 an1 (.ref c1) ct1), sl1⟩)
    (h1 : PySem.W.codeIn K (.ref c1) "beside" = true)
    (k1 : PySem.W.keepIn K (.ref f1) = true)
    (a2 : PySem.W.nsIn K mainGlobals "far_from" = some (some (.ref f2)))
    (l2 : K.lookup f2 = some ⟨oc2, od2, .func (PySem.W.fnOf "far_from" "far_from" (defArgs s_far_from) (defBody s_far_from) (defScope s_far_from) .none kV2 dc2 pm2 an2 (.ref c2) ct2), sl2⟩)
    (h2 : PySem.W.codeIn K (.ref c2) "far_from" = true)
    (k2 : PySem.W.keepIn K (.ref f2) = true)
    (a3 : PySem.W.nsIn K mainGlobals "first_way" = some (some (.ref f3)))
    (l3 : K.lookup f3 = some ⟨oc3, od3, .func (PySem.W.fnOf "first_way" "first_way" (defArgs s_first_way) (defBody s_first_way) (defScope s_first_way) .none kV3 dc3 pm3 an3 (.ref c3) ct3), sl3⟩)
    (h3 : PySem.W.codeIn K (.ref c3) "first_way" = true)
    (k3 : PySem.W.keepIn K (.ref f3) = true)
    (a4 : PySem.W.nsIn K mainGlobals "hangs_together" = some (some (.ref f4)))
    (l4 : K.lookup f4 = some ⟨oc4, od4, .func (PySem.W.fnOf "hangs_together" "hangs_together" (defArgs s_hangs_together) (defBody s_hangs_together) (defScope s_hangs_together) .none kV4 dc4 pm4 an4 (.ref c4) ct4), sl4⟩)
    (h4 : PySem.W.codeIn K (.ref c4) "hangs_together" = true)
    (k4 : PySem.W.keepIn K (.ref f4) = true)
    (a5 : PySem.W.nsIn K mainGlobals "shortest_round" = some (some (.ref f5)))
    (l5 : K.lookup f5 = some ⟨oc5, od5, .func (PySem.W.fnOf "shortest_round" "shortest_round" (defArgs s_shortest_round) (defBody s_shortest_round) (defScope s_shortest_round) .none kV5 dc5 pm5 an5 (.ref c5) ct5), sl5⟩)
    (h5 : PySem.W.codeIn K (.ref c5) "shortest_round" = true)
    (k5 : PySem.W.keepIn K (.ref f5) = true)
    (a6 : PySem.W.nsIn K mainGlobals "look_signs" = some (some (.ref f6)))
    (l6 : K.lookup f6 = some ⟨oc6, od6, .func (PySem.W.fnOf "look_signs" "look_signs" (defArgs s_look_signs) (defBody s_look_signs) (defScope s_look_signs) .none kV6 dc6 pm6 an6 (.ref c6) ct6), sl6⟩)
    (h6 : PySem.W.codeIn K (.ref c6) "look_signs" = true)
    (k6 : PySem.W.keepIn K (.ref f6) = true)
    (a7 : PySem.W.nsIn K mainGlobals "three" = some (some (.ref f7)))
    (l7 : K.lookup f7 = some ⟨oc7, od7, .func (PySem.W.fnOf "three" "three" (defArgs s_three) (defBody s_three) (defScope s_three) .none kV7 dc7 pm7 an7 (.ref c7) ct7), sl7⟩)
    (h7 : PySem.W.codeIn K (.ref c7) "three" = true)
    (k7 : PySem.W.keepIn K (.ref f7) = true)
    (a8 : PySem.W.nsIn K mainGlobals "check_of" = some (some (.ref f8)))
    (l8 : K.lookup f8 = some ⟨oc8, od8, .func (PySem.W.fnOf "check_of" "check_of" (defArgs s_check_of) (defBody s_check_of) (defScope s_check_of) .none kV8 dc8 pm8 an8 (.ref c8) ct8), sl8⟩)
    (h8 : PySem.W.codeIn K (.ref c8) "check_of" = true)
    (k8 : PySem.W.keepIn K (.ref f8) = true)
    (t8 : K.lookup c8 = some ⟨te8, td8, .fields tv8, ts8⟩)
    (u8 : tv8[11]? = some (.ref p8))
    (v8 : PySem.W.codeHdIn K c8 p8 = true)
    (w8 : K.lookup p8 = none)
    (a9 : PySem.W.nsIn K mainGlobals "is_thing" = some (some (.ref f9)))
    (l9 : K.lookup f9 = some ⟨oc9, od9, .func (PySem.W.fnOf "is_thing" "is_thing" (defArgs s_is_thing) (defBody s_is_thing) (defScope s_is_thing) .none kV9 dc9 pm9 an9 (.ref c9) ct9), sl9⟩)
    (h9 : PySem.W.codeIn K (.ref c9) "is_thing" = true)
    (k9 : PySem.W.keepIn K (.ref f9) = true)
    (t9 : K.lookup c9 = some ⟨te9, td9, .fields tv9, ts9⟩)
    (u9 : tv9[11]? = some (.ref p9))
    (v9 : PySem.W.codeHdIn K c9 p9 = true)
    (w9 : K.lookup p9 = none)
    (a10 : PySem.W.nsIn K mainGlobals "read" = some (some (.ref f10)))
    (l10 : K.lookup f10 = some ⟨oc10, od10, .func (PySem.W.fnOf "read" "read" (defArgs s_read) (defBody s_read) (defScope s_read) .none kV10 dc10 pm10 an10 (.ref c10) ct10), sl10⟩)
    (h10 : PySem.W.codeIn K (.ref c10) "read" = true)
    (k10 : PySem.W.keepIn K (.ref f10) = true)
    (a11 : PySem.W.nsIn K mainGlobals "_law_dice" = some (some (.ref f11)))
    (l11 : K.lookup f11 = some ⟨oc11, od11, .func (PySem.W.fnOf "_law_dice" "_law_dice" (defArgs s__law_dice) (defBody s__law_dice) (defScope s__law_dice) .none kV11 dc11 pm11 an11 (.ref c11) ct11), sl11⟩)
    (h11 : PySem.W.codeIn K (.ref c11) "_law_dice" = true)
    (k11 : PySem.W.keepIn K (.ref f11) = true)
    (a12 : PySem.W.nsIn K mainGlobals "_law_roll" = some (some (.ref f12)))
    (l12 : K.lookup f12 = some ⟨oc12, od12, .func (PySem.W.fnOf "_law_roll" "_law_roll" (defArgs s__law_roll) (defBody s__law_roll) (defScope s__law_roll) .none kV12 dc12 pm12 an12 (.ref c12) ct12), sl12⟩)
    (h12 : PySem.W.codeIn K (.ref c12) "_law_roll" = true)
    (k12 : PySem.W.keepIn K (.ref f12) = true)
    (a13 : PySem.W.nsIn K mainGlobals "_law_rounds" = some (some (.ref f13)))
    (l13 : K.lookup f13 = some ⟨oc13, od13, .func (PySem.W.fnOf "_law_rounds" "_law_rounds" (defArgs s__law_rounds) (defBody s__law_rounds) (defScope s__law_rounds) .none kV13 dc13 pm13 an13 (.ref c13) ct13), sl13⟩)
    (h13 : PySem.W.codeIn K (.ref c13) "_law_rounds" = true)
    (k13 : PySem.W.keepIn K (.ref f13) = true)
    (a14 : PySem.W.nsIn K mainGlobals "_law_told" = some (some (.ref f14)))
    (l14 : K.lookup f14 = some ⟨oc14, od14, .func (PySem.W.fnOf "_law_told" "_law_told" (defArgs s__law_told) (defBody s__law_told) (defScope s__law_told) .none kV14 dc14 pm14 an14 (.ref c14) ct14), sl14⟩)
    (h14 : PySem.W.codeIn K (.ref c14) "_law_told" = true)
    (k14 : PySem.W.keepIn K (.ref f14) = true)
    (a15 : PySem.W.nsIn K mainGlobals "law" = some (some (.ref f15)))
    (l15 : K.lookup f15 = some ⟨oc15, od15, .func (PySem.W.fnOf "law" "law" (defArgs s_law) (defBody s_law) (defScope s_law) .none kV15 dc15 pm15 an15 (.ref c15) ct15), sl15⟩)
    (h15 : PySem.W.codeIn K (.ref c15) "law" = true)
    (k15 : PySem.W.keepIn K (.ref f15) = true)
    (t15 : K.lookup c15 = some ⟨te15, td15, .fields tv15, ts15⟩)
    (u15 : tv15[11]? = some (.ref p15))
    (v15 : PySem.W.codeHdIn K c15 p15 = true)
    (w15 : K.lookup p15 = none)
    (n0 : PySem.W.nsIn K mainGlobals "BadPlan" = some (some (.ref x0)))
    (o0 : PySem.W.excIn K x0 [.type "ValueError", .type "Exception", .type "BaseException", .type "object"] "ValueError.__new__" = true)
    (q0 : PySem.W.keepIn K (.ref x0) = true)
    (r0 : PySem.W.subIn K (.ref x0) (.type "BaseException") = some true)
    (y0 : PySem.W.typeIn K (.ref x0) = some (.type "type"))
    (n1 : PySem.W.nsIn K mainGlobals "NoWay" = some (some (.ref x1)))
    (o1 : PySem.W.excIn K x1 [.type "ValueError", .type "Exception", .type "BaseException", .type "object"] "ValueError.__new__" = true)
    (q1 : PySem.W.keepIn K (.ref x1) = true)
    (r1 : PySem.W.subIn K (.ref x1) (.type "BaseException") = some true)
    (y1 : PySem.W.typeIn K (.ref x1) = some (.type "type"))
    (n2 : PySem.W.nsIn K mainGlobals "BadNumber" = some (some (.ref x2)))
    (q2 : PySem.W.keepIn K (.ref x2) = true)
    (r2 : PySem.W.subIn K (.ref x2) (.type "BaseException") = some true)
    (y2 : PySem.W.typeIn K (.ref x2) = some (.type "type"))
    (n3 : PySem.W.nsIn K mainGlobals "BadPaper" = some (some (.ref x3)))
    (q3 : PySem.W.keepIn K (.ref x3) = true)
    (r3 : PySem.W.subIn K (.ref x3) (.type "BaseException") = some true)
    (y3 : PySem.W.typeIn K (.ref x3) = some (.type "type"))
    (n4 : PySem.W.nsIn K mainGlobals "TooLarge" = some (some (.ref x4)))
    (o4 : PySem.W.excIn K x4 [.type "ValueError", .type "Exception", .type "BaseException", .type "object"] "ValueError.__new__" = true)
    (q4 : PySem.W.keepIn K (.ref x4) = true)
    (r4 : PySem.W.subIn K (.ref x4) (.type "BaseException") = some true)
    (y4 : PySem.W.typeIn K (.ref x4) = some (.type "type"))
    (n5 : PySem.W.nsIn K mainGlobals "BadDeed" = some (some (.ref x5)))
    (o5 : PySem.W.excIn K x5 [.type "ValueError", .type "Exception", .type "BaseException", .type "object"] "ValueError.__new__" = true)
    (q5 : PySem.W.keepIn K (.ref x5) = true)
    (r5 : PySem.W.subIn K (.ref x5) (.type "BaseException") = some true)
    (y5 : PySem.W.typeIn K (.ref x5) = some (.type "type"))
    (n6 : PySem.W.nsIn K mainGlobals "HallFault" = some (some (.ref x6)))
    (q6 : PySem.W.keepIn K (.ref x6) = true)
    (r6 : PySem.W.subIn K (.ref x6) (.type "BaseException") = some true)
    (y6 : PySem.W.typeIn K (.ref x6) = some (.type "type"))
    (ia0 : PySem.W.findIn K (.ref x2) "__init__" = some (some (.ref fi0)))
    (ib0 : K.lookup fi0 = some ⟨oci0, odi0, .func (PySem.W.fnX "__init__" "BadNumber.__init__" (defArgs si_BadNumber) (defBody si_BadNumber) (defScope si_BadNumber) [("__class__", cci0)] .none kVi0 dci0 pmi0 ani0 (.ref ci0) cti0), sli0⟩)
    (id0 : PySem.W.codeIn K (.ref ci0) "BadNumber.__init__" = true)
    (ie0 : K.lookup ci0 = some ⟨cli0, cdi0, .fields vi0, csi0⟩)
    (if0 : vi0[2]? = some (.str fli0 tfi0))
    (ig0 : ((PR.main.file : Str) == fli0) = true)
    (ih0 : K.lookup cci0 = some ⟨cxi0, cyi0, .cell (some (.ref x2)), czi0⟩)
    (ij0 : K.lookup x2 = some (excClassObj nmi0 qni0 x2 Ni0 bsi0 bmi0 true sni0 subi0 abi0 coli0 ddi0 k0i0 k1i0 k2i0 k3i0 k5i0 "ValueError.__new__"))
    (ik0 : PySem.HandSPX.refsVE bmi0 = true)
    (il0 : PySem.W.findIn K (.ref x2) "__setattr__" = some (some (.builtin "object.__setattr__")))
    (im0 : PySem.W.ks_superIn K x2 x2 "__init__" = some (some (.builtin "ValueError.__init__")))
    (io0 : PySem.W.subIn K (.ref x2) (.type "ValueError") = some true)
    (ip0 : PySem.W.mroIn K x2 (.ref x2) = some true)
    (iq0 : PySem.W.findIn K (.ref x2) "place" = some none)
    (ir0 : PySem.W.typeIn K (.ref fi0) = some (.type "function"))
    (ia1 : PySem.W.findIn K (.ref x3) "__init__" = some (some (.ref fi1)))
    (ib1 : K.lookup fi1 = some ⟨oci1, odi1, .func (PySem.W.fnX "__init__" "BadPaper.__init__" (defArgs si_BadPaper) (defBody si_BadPaper) (defScope si_BadPaper) [("__class__", cci1)] .none kVi1 dci1 pmi1 ani1 (.ref ci1) cti1), sli1⟩)
    (id1 : PySem.W.codeIn K (.ref ci1) "BadPaper.__init__" = true)
    (ie1 : K.lookup ci1 = some ⟨cli1, cdi1, .fields vi1, csi1⟩)
    (if1 : vi1[2]? = some (.str fli1 tfi1))
    (ig1 : ((PR.main.file : Str) == fli1) = true)
    (ih1 : K.lookup cci1 = some ⟨cxi1, cyi1, .cell (some (.ref x3)), czi1⟩)
    (ij1 : K.lookup x3 = some (excClassObj nmi1 qni1 x3 Ni1 bsi1 bmi1 true sni1 subi1 abi1 coli1 ddi1 k0i1 k1i1 k2i1 k3i1 k5i1 "ValueError.__new__"))
    (ik1 : PySem.HandSPX.refsVE bmi1 = true)
    (il1 : PySem.W.findIn K (.ref x3) "__setattr__" = some (some (.builtin "object.__setattr__")))
    (im1 : PySem.W.ks_superIn K x3 x3 "__init__" = some (some (.builtin "ValueError.__init__")))
    (io1 : PySem.W.subIn K (.ref x3) (.type "ValueError") = some true)
    (ip1 : PySem.W.mroIn K x3 (.ref x3) = some true)
    (iq1 : PySem.W.findIn K (.ref x3) "part" = some none)
    (ir1 : PySem.W.typeIn K (.ref fi1) = some (.type "function"))
    (isu : PySem.W.nsIn K mainGlobals "super" = some none)
    (itp : PySem.W.nsIn K PySem.cStatics "thirdparty.any" = some none)
    (zk_FIGURES : PySem.W.nsIn K mainGlobals "FIGURES" = some (some (.str "0123456789" tk_FIGURES)))
    (z_ValueError : PySem.W.nsIn K mainGlobals "ValueError" = some none)
    (z_abs : PySem.W.nsIn K mainGlobals "abs" = some none)
    (z_all : PySem.W.nsIn K mainGlobals "all" = some none)
    (z_any : PySem.W.nsIn K mainGlobals "any" = some none)
    (z_bool : PySem.W.nsIn K mainGlobals "bool" = some none)
    (z_enumerate : PySem.W.nsIn K mainGlobals "enumerate" = some none)
    (z_int : PySem.W.nsIn K mainGlobals "int" = some none)
    (z_isinstance : PySem.W.nsIn K mainGlobals "isinstance" = some none)
    (z_len : PySem.W.nsIn K mainGlobals "len" = some none)
    (z_list : PySem.W.nsIn K mainGlobals "list" = some none)
    (z_max : PySem.W.nsIn K mainGlobals "max" = some none)
    (z_min : PySem.W.nsIn K mainGlobals "min" = some none)
    (z_range : PySem.W.nsIn K mainGlobals "range" = some none)
    (z_sorted : PySem.W.nsIn K mainGlobals "sorted" = some none)
    (z_str : PySem.W.nsIn K mainGlobals "str" = some none)
    (z_sum : PySem.W.nsIn K mainGlobals "sum" = some none)
    (z_tuple : PySem.W.nsIn K mainGlobals "tuple" = some none)
    (rns : PySem.W.nsIn K mainGlobals "Register" = some (some (.ref CR)))
    (rc1 : PySem.W.plainGet K CR Str.empty = true)
    (rc2 : PySem.W.hasDictIn K CR = true)
    (rc3 : PySem.W.plainOver K CR = true)
    (rc4 : PySem.W.findIn K (.ref CR) "__setattr__" = some (some (.builtin "object.__setattr__")))
    (rn0 : PySem.W.findIn K (.ref CR) "rooms" = some none)
    (rn1 : PySem.W.findIn K (.ref CR) "things" = some none)
    (rn2 : PySem.W.findIn K (.ref CR) "deeds" = some none)
    (rn3 : PySem.W.findIn K (.ref CR) "undone" = some none)
    (rm1 : PySem.W.makesIn K CR = true)
    (rm2 : PySem.W.keepIn K (.ref CR) = true)
    (ra_ri : PySem.W.findIn K (.ref CR) "__init__" = some (some (.ref f_ri)))
    (rb_ri : PySem.W.isFn K (.ref f_ri) = true)
    (rk_ri : PySem.W.keepIn K (.ref f_ri) = true)
    (rl_ri : K.lookup f_ri = some ⟨oc_ri, od_ri, .func (PySem.W.fnOf "__init__" "Register.__init__" (defArgs s_ri) (defBody s_ri) (defScope s_ri) .none kV_ri dc_ri pm_ri an_ri (.ref c_ri) ct_ri), sl_ri⟩)
    (rh_ri : PySem.W.codeIn K (.ref c_ri) "Register.__init__" = true)
    (ra_rp : PySem.W.findIn K (.ref CR) "put_by" = some (some (.ref f_rp)))
    (rb_rp : PySem.W.isFn K (.ref f_rp) = true)
    (rk_rp : PySem.W.keepIn K (.ref f_rp) = true)
    (rl_rp : K.lookup f_rp = some ⟨oc_rp, od_rp, .func (PySem.W.fnOf "put_by" "Register.put_by" (defArgs s_rp) (defBody s_rp) (defScope s_rp) .none kV_rp dc_rp pm_rp an_rp (.ref c_rp) ct_rp), sl_rp⟩)
    (rh_rp : PySem.W.codeIn K (.ref c_rp) "Register.put_by" = true)
    (ra_rg : PySem.W.findIn K (.ref CR) "go_on" = some (some (.ref f_rg)))
    (rb_rg : PySem.W.isFn K (.ref f_rg) = true)
    (rk_rg : PySem.W.keepIn K (.ref f_rg) = true)
    (rl_rg : K.lookup f_rg = some ⟨oc_rg, od_rg, .func (PySem.W.fnOf "go_on" "Register.go_on" (defArgs s_rg) (defBody s_rg) (defScope s_rg) .none kV_rg dc_rg pm_rg an_rg (.ref c_rg) ct_rg), sl_rg⟩)
    (rh_rg : PySem.W.codeIn K (.ref c_rg) "Register.go_on" = true)
    (t_ri : K.lookup c_ri = some ⟨te_ri, td_ri, .fields tv_ri, ts_ri⟩)
    (u_ri : tv_ri[11]? = some (.ref p_ri))
    (v_ri : PySem.W.codeHdIn K c_ri p_ri = true)
    (w_ri : K.lookup p_ri = none)
    (em_ri : h.get? p_ri = some { cls := .none, data := .fields #[] })
    (ea0 : PySem.W.findIn K (.ref x0) "__getattribute__" = some (some (.builtin "BaseException.__getattribute__")))
    (eb0 : PySem.W.findIn K (.ref x0) "__getattr__" = some none)
    (ec0 : PySem.W.hasDictIn K x0 = true)
    (ed0 : PySem.W.findIn K (.ref x0) "__class__" = some (some (.builtin "object.__class__")))
    (ee0 : PySem.W.mroIn K x0 (.type "object") = some true)
    (eg0 : PySem.W.exmOne K (.ref x0) (.ref x6) = some true)
    (ei00 : PySem.W.kitOne K (.ref x0) (.ref x0) = some true)
    (ei01 : PySem.W.kitOne K (.ref x0) (.ref x1) = some false)
    (ei02 : PySem.W.kitOne K (.ref x0) (.ref x2) = some false)
    (ei03 : PySem.W.kitOne K (.ref x0) (.ref x3) = some false)
    (ei04 : PySem.W.kitOne K (.ref x0) (.ref x4) = some false)
    (ei05 : PySem.W.kitOne K (.ref x0) (.ref x5) = some false)
    (ev0 : PySem.W.kitOne K (.ref x0) (.type "ValueError") = some true)
    (ea1 : PySem.W.findIn K (.ref x1) "__getattribute__" = some (some (.builtin "BaseException.__getattribute__")))
    (eb1 : PySem.W.findIn K (.ref x1) "__getattr__" = some none)
    (ec1 : PySem.W.hasDictIn K x1 = true)
    (ed1 : PySem.W.findIn K (.ref x1) "__class__" = some (some (.builtin "object.__class__")))
    (ee1 : PySem.W.mroIn K x1 (.type "object") = some true)
    (eg1 : PySem.W.exmOne K (.ref x1) (.ref x6) = some true)
    (ei10 : PySem.W.kitOne K (.ref x1) (.ref x0) = some false)
    (ei11 : PySem.W.kitOne K (.ref x1) (.ref x1) = some true)
    (ei12 : PySem.W.kitOne K (.ref x1) (.ref x2) = some false)
    (ei13 : PySem.W.kitOne K (.ref x1) (.ref x3) = some false)
    (ei14 : PySem.W.kitOne K (.ref x1) (.ref x4) = some false)
    (ei15 : PySem.W.kitOne K (.ref x1) (.ref x5) = some false)
    (ev1 : PySem.W.kitOne K (.ref x1) (.type "ValueError") = some true)
    (ea2 : PySem.W.findIn K (.ref x2) "__getattribute__" = some (some (.builtin "BaseException.__getattribute__")))
    (eb2 : PySem.W.findIn K (.ref x2) "__getattr__" = some none)
    (ec2 : PySem.W.hasDictIn K x2 = true)
    (ed2 : PySem.W.findIn K (.ref x2) "__class__" = some (some (.builtin "object.__class__")))
    (ee2 : PySem.W.mroIn K x2 (.type "object") = some true)
    (eg2 : PySem.W.exmOne K (.ref x2) (.ref x6) = some true)
    (ei20 : PySem.W.kitOne K (.ref x2) (.ref x0) = some false)
    (ei21 : PySem.W.kitOne K (.ref x2) (.ref x1) = some false)
    (ei22 : PySem.W.kitOne K (.ref x2) (.ref x2) = some true)
    (ei23 : PySem.W.kitOne K (.ref x2) (.ref x3) = some false)
    (ei24 : PySem.W.kitOne K (.ref x2) (.ref x4) = some false)
    (ei25 : PySem.W.kitOne K (.ref x2) (.ref x5) = some false)
    (ev2 : PySem.W.kitOne K (.ref x2) (.type "ValueError") = some true)
    (ea3 : PySem.W.findIn K (.ref x3) "__getattribute__" = some (some (.builtin "BaseException.__getattribute__")))
    (eb3 : PySem.W.findIn K (.ref x3) "__getattr__" = some none)
    (ec3 : PySem.W.hasDictIn K x3 = true)
    (ed3 : PySem.W.findIn K (.ref x3) "__class__" = some (some (.builtin "object.__class__")))
    (ee3 : PySem.W.mroIn K x3 (.type "object") = some true)
    (eg3 : PySem.W.exmOne K (.ref x3) (.ref x6) = some true)
    (ei30 : PySem.W.kitOne K (.ref x3) (.ref x0) = some false)
    (ei31 : PySem.W.kitOne K (.ref x3) (.ref x1) = some false)
    (ei32 : PySem.W.kitOne K (.ref x3) (.ref x2) = some false)
    (ei33 : PySem.W.kitOne K (.ref x3) (.ref x3) = some true)
    (ei34 : PySem.W.kitOne K (.ref x3) (.ref x4) = some false)
    (ei35 : PySem.W.kitOne K (.ref x3) (.ref x5) = some false)
    (ev3 : PySem.W.kitOne K (.ref x3) (.type "ValueError") = some true)
    (ea4 : PySem.W.findIn K (.ref x4) "__getattribute__" = some (some (.builtin "BaseException.__getattribute__")))
    (eb4 : PySem.W.findIn K (.ref x4) "__getattr__" = some none)
    (ec4 : PySem.W.hasDictIn K x4 = true)
    (ed4 : PySem.W.findIn K (.ref x4) "__class__" = some (some (.builtin "object.__class__")))
    (ee4 : PySem.W.mroIn K x4 (.type "object") = some true)
    (eg4 : PySem.W.exmOne K (.ref x4) (.ref x6) = some true)
    (ei40 : PySem.W.kitOne K (.ref x4) (.ref x0) = some false)
    (ei41 : PySem.W.kitOne K (.ref x4) (.ref x1) = some false)
    (ei42 : PySem.W.kitOne K (.ref x4) (.ref x2) = some false)
    (ei43 : PySem.W.kitOne K (.ref x4) (.ref x3) = some false)
    (ei44 : PySem.W.kitOne K (.ref x4) (.ref x4) = some true)
    (ei45 : PySem.W.kitOne K (.ref x4) (.ref x5) = some false)
    (ev4 : PySem.W.kitOne K (.ref x4) (.type "ValueError") = some true)
    (ea5 : PySem.W.findIn K (.ref x5) "__getattribute__" = some (some (.builtin "BaseException.__getattribute__")))
    (eb5 : PySem.W.findIn K (.ref x5) "__getattr__" = some none)
    (ec5 : PySem.W.hasDictIn K x5 = true)
    (ed5 : PySem.W.findIn K (.ref x5) "__class__" = some (some (.builtin "object.__class__")))
    (ee5 : PySem.W.mroIn K x5 (.type "object") = some true)
    (eg5 : PySem.W.exmOne K (.ref x5) (.ref x6) = some true)
    (ei50 : PySem.W.kitOne K (.ref x5) (.ref x0) = some false)
    (ei51 : PySem.W.kitOne K (.ref x5) (.ref x1) = some false)
    (ei52 : PySem.W.kitOne K (.ref x5) (.ref x2) = some false)
    (ei53 : PySem.W.kitOne K (.ref x5) (.ref x3) = some false)
    (ei54 : PySem.W.kitOne K (.ref x5) (.ref x4) = some false)
    (ei55 : PySem.W.kitOne K (.ref x5) (.ref x5) = some true)
    (ev5 : PySem.W.kitOne K (.ref x5) (.type "ValueError") = some true)
    (hn7 : PySem.W.specialIn K (.builtin "object.__class__") "__get__" = some (some (.builtin "getset_descriptor.__get__")))
    (ht7 : PySem.W.takesIn K (.builtin "object.__class__") = some true)
    (off : ∀ p ∈ ([p0, p8, p9, p_ri] : List Addr), p ∉ ([p15] ++ [] : List Addr))
    (offm : ∀ p ∈ ([p15] : List Addr), p ∉ ([p0, p8, p9, p_ri] ++ [] : List Addr))
    : LamX.LawAtS l w K (L2.CX l.prog w) 41 63 "script" mg fa h :=
  law_at (a := { f_check_doors := f0, c_check_doors := c0, d_check_doors := PySem.W.fnOf "check_doors" "check_doors" (defArgs s_check_doors) (defBody s_check_doors) (defScope s_check_doors) .none kV0 dc0 pm0 an0 (.ref c0) ct0, p_check_doors := p0, f_beside := f1, c_beside := c1, d_beside := PySem.W.fnOf "beside" "beside" (defArgs s_beside) (defBody s_beside) (defScope s_beside) .none kV1 dc1 pm1 an1 (.ref c1) ct1, f_far_from := f2, c_far_from := c2, d_far_from := PySem.W.fnOf "far_from" "far_from" (defArgs s_far_from) (defBody s_far_from) (defScope s_far_from) .none kV2 dc2 pm2 an2 (.ref c2) ct2, f_first_way := f3, c_first_way := c3, d_first_way := PySem.W.fnOf "first_way" "first_way" (defArgs s_first_way) (defBody s_first_way) (defScope s_first_way) .none kV3 dc3 pm3 an3 (.ref c3) ct3, f_hangs_together := f4, c_hangs_together := c4, d_hangs_together := PySem.W.fnOf "hangs_together" "hangs_together" (defArgs s_hangs_together) (defBody s_hangs_together) (defScope s_hangs_together) .none kV4 dc4 pm4 an4 (.ref c4) ct4, f_shortest_round := f5, c_shortest_round := c5, d_shortest_round := PySem.W.fnOf "shortest_round" "shortest_round" (defArgs s_shortest_round) (defBody s_shortest_round) (defScope s_shortest_round) .none kV5 dc5 pm5 an5 (.ref c5) ct5, f_look_signs := f6, c_look_signs := c6, d_look_signs := PySem.W.fnOf "look_signs" "look_signs" (defArgs s_look_signs) (defBody s_look_signs) (defScope s_look_signs) .none kV6 dc6 pm6 an6 (.ref c6) ct6, f_three := f7, c_three := c7, d_three := PySem.W.fnOf "three" "three" (defArgs s_three) (defBody s_three) (defScope s_three) .none kV7 dc7 pm7 an7 (.ref c7) ct7, f_check_of := f8, c_check_of := c8, d_check_of := PySem.W.fnOf "check_of" "check_of" (defArgs s_check_of) (defBody s_check_of) (defScope s_check_of) .none kV8 dc8 pm8 an8 (.ref c8) ct8, p_check_of := p8, f_is_thing := f9, c_is_thing := c9, d_is_thing := PySem.W.fnOf "is_thing" "is_thing" (defArgs s_is_thing) (defBody s_is_thing) (defScope s_is_thing) .none kV9 dc9 pm9 an9 (.ref c9) ct9, p_is_thing := p9, f_read := f10, c_read := c10, d_read := PySem.W.fnOf "read" "read" (defArgs s_read) (defBody s_read) (defScope s_read) .none kV10 dc10 pm10 an10 (.ref c10) ct10, f__law_dice := f11, c__law_dice := c11, d__law_dice := PySem.W.fnOf "_law_dice" "_law_dice" (defArgs s__law_dice) (defBody s__law_dice) (defScope s__law_dice) .none kV11 dc11 pm11 an11 (.ref c11) ct11, f__law_roll := f12, c__law_roll := c12, d__law_roll := PySem.W.fnOf "_law_roll" "_law_roll" (defArgs s__law_roll) (defBody s__law_roll) (defScope s__law_roll) .none kV12 dc12 pm12 an12 (.ref c12) ct12, f__law_rounds := f13, c__law_rounds := c13, d__law_rounds := PySem.W.fnOf "_law_rounds" "_law_rounds" (defArgs s__law_rounds) (defBody s__law_rounds) (defScope s__law_rounds) .none kV13 dc13 pm13 an13 (.ref c13) ct13, f__law_told := f14, c__law_told := c14, d__law_told := PySem.W.fnOf "_law_told" "_law_told" (defArgs s__law_told) (defBody s__law_told) (defScope s__law_told) .none kV14 dc14 pm14 an14 (.ref c14) ct14, f_law := f15, c_law := c15, d_law := PySem.W.fnOf "law" "law" (defArgs s_law) (defBody s_law) (defScope s_law) .none kV15 dc15 pm15 an15 (.ref c15) ct15, p_law := p15, x_BadPlan := x0, x_NoWay := x1, x_BadNumber := x2, x_BadPaper := x3, x_TooLarge := x4, x_BadDeed := x5, x_HallFault := x6, i_BadNumber := fi0, di_BadNumber := PySem.W.fnX "__init__" "BadNumber.__init__" (defArgs si_BadNumber) (defBody si_BadNumber) (defScope si_BadNumber) [("__class__", cci0)] .none kVi0 dci0 pmi0 ani0 (.ref ci0) cti0, i_BadPaper := fi1, di_BadPaper := PySem.W.fnX "__init__" "BadPaper.__init__" (defArgs si_BadPaper) (defBody si_BadPaper) (defScope si_BadPaper) [("__class__", cci1)] .none kVi1 dci1 pmi1 ani1 (.ref ci1) cti1, C_R := CR, p_ri := p_ri, f_ri := f_ri, c_ri := c_ri, d_ri := PySem.W.fnOf "__init__" "Register.__init__" (defArgs s_ri) (defBody s_ri) (defScope s_ri) .none kV_ri dc_ri pm_ri an_ri (.ref c_ri) ct_ri, f_rp := f_rp, c_rp := c_rp, d_rp := PySem.W.fnOf "put_by" "Register.put_by" (defArgs s_rp) (defBody s_rp) (defScope s_rp) .none kV_rp dc_rp pm_rp an_rp (.ref c_rp) ct_rp, f_rg := f_rg, c_rg := c_rg, d_rg := PySem.W.fnOf "go_on" "Register.go_on" (defArgs s_rg) (defBody s_rg) (defScope s_rg) .none kV_rg dc_rg pm_rg an_rg (.ref c_rg) ct_rg }) { d_check_doors := def_mk a0 l0 h0 k0, d_beside := def_mk a1 l1 h1 k1, d_far_from := def_mk a2 l2 h2 k2, d_first_way := def_mk a3 l3 h3 k3, d_hangs_together := def_mk a4 l4 h4 k4, d_shortest_round := def_mk a5 l5 h5 k5, d_look_signs := def_mk a6 l6 h6 k6, d_three := def_mk a7 l7 h7 k7, d_check_of := def_mk a8 l8 h8 k8, d_is_thing := def_mk a9 l9 h9 k9, d_read := def_mk a10 l10 h10 k10, d__law_dice := def_mk a11 l11 h11 k11, d__law_roll := def_mk a12 l12 h12 k12, d__law_rounds := def_mk a13 l13 h13 k13, d__law_told := def_mk a14 l14 h14 k14, d_law := def_mk a15 l15 h15 k15, x_BadPlan := ⟨n0, q0, r0, y0⟩, xe_BadPlan := o0, x_NoWay := ⟨n1, q1, r1, y1⟩, xe_NoWay := o1, x_BadNumber := ⟨n2, q2, r2, y2⟩, x_BadPaper := ⟨n3, q3, r3, y3⟩, x_TooLarge := ⟨n4, q4, r4, y4⟩, xe_TooLarge := o4, x_BadDeed := ⟨n5, q5, r5, y5⟩, xe_BadDeed := o5, x_HallFault := ⟨n6, q6, r6, y6⟩, s_BadNumber := ⟨⟨_, _, _, _, _, _, _, _, _, _, rfl, ib0, id0, ⟨_, _, _, _, _, _, ie0, if0, ig0⟩, _, _, _, ih0⟩, ⟨⟨_, _, _, _, _, _, _, _, _, _, _, _, _, _, _, ij0, ik0⟩, il0, r2, y2, q2⟩, isu, itp, im0, io0, ip0, iq0⟩, ic_BadNumber := ia0, ti_BadNumber := ir0, s_BadPaper := ⟨⟨_, _, _, _, _, _, _, _, _, _, rfl, ib1, id1, ⟨_, _, _, _, _, _, ie1, if1, ig1⟩, _, _, _, ih1⟩, ⟨⟨_, _, _, _, _, _, _, _, _, _, _, _, _, _, _, ij1, ik1⟩, il1, r3, y3, q3⟩, isu, itp, im1, io1, ip1, iq1⟩, ic_BadPaper := ia1, ti_BadPaper := ir1, m_ValueError := z_ValueError, m_abs := z_abs, m_all := z_all, m_any := z_any, m_bool := z_bool, m_enumerate := z_enumerate, m_int := z_int, m_isinstance := z_isinstance, m_len := z_len, m_list := z_list, m_max := z_max, m_min := z_min, m_range := z_range, m_sorted := z_sorted, m_str := z_str, m_sum := z_sum, m_tuple := z_tuple, k_FIGURES := ⟨_, zk_FIGURES⟩, F_ri := ⟨⟨oc_ri, od_ri, kV_ri, dc_ri, pm_ri, an_ri, ct_ri, sl_ri, rfl, rl_ri, rh_ri⟩, rk_ri⟩, F_rp := ⟨⟨oc_rp, od_rp, kV_rp, dc_rp, pm_rp, an_rp, ct_rp, sl_rp, rfl, rl_rp, rh_rp⟩, rk_rp⟩, me_rp := ⟨ra_rp, rb_rp, rk_rp⟩, F_rg := ⟨⟨oc_rg, od_rg, kV_rg, dc_rg, pm_rg, an_rg, ct_rg, sl_rg, rfl, rl_rg, rh_rg⟩, rk_rg⟩, me_rg := ⟨ra_rg, rb_rg, rk_rg⟩, R := ⟨rns, ⟨rc1, rc2, rc3, rc4⟩, rn0, rn1, rn2, rn3⟩, mk_ri := ⟨rm1, ra_ri, rb_ri, rm2⟩, ec_BadPlan := ⟨ea0, eb0, r0, ec0, ed0, hn7, ht7, ee0⟩, e7_BadPlan := eg0, k7_BadPlan := ⟨_, _, _, _, _, _, _, rfl, ei00, ei01, ei02, ei03, ei04, ei05, ev0⟩, ec_NoWay := ⟨ea1, eb1, r1, ec1, ed1, hn7, ht7, ee1⟩, e7_NoWay := eg1, k7_NoWay := ⟨_, _, _, _, _, _, _, rfl, ei10, ei11, ei12, ei13, ei14, ei15, ev1⟩, ec_BadNumber := ⟨ea2, eb2, r2, ec2, ed2, hn7, ht7, ee2⟩, e7_BadNumber := eg2, k7_BadNumber := ⟨_, _, _, _, _, _, _, rfl, ei20, ei21, ei22, ei23, ei24, ei25, ev2⟩, ec_BadPaper := ⟨ea3, eb3, r3, ec3, ed3, hn7, ht7, ee3⟩, e7_BadPaper := eg3, k7_BadPaper := ⟨_, _, _, _, _, _, _, rfl, ei30, ei31, ei32, ei33, ei34, ei35, ev3⟩, ec_TooLarge := ⟨ea4, eb4, r4, ec4, ed4, hn7, ht7, ee4⟩, e7_TooLarge := eg4, k7_TooLarge := ⟨_, _, _, _, _, _, _, rfl, ei40, ei41, ei42, ei43, ei44, ei45, ev4⟩, ec_BadDeed := ⟨ea5, eb5, r5, ec5, ed5, hn7, ht7, ee5⟩, e7_BadDeed := eg5, k7_BadDeed := ⟨_, _, _, _, _, _, _, rfl, ei50, ei51, ei52, ei53, ei54, ei55, ev5⟩, off := off, offm := offm } ⟨by
    intro p hp
    simp only [cs, List.mem_cons, List.not_mem_nil, or_false] at hp
    rcases hp with rfl | rfl | rfl | rfl | rfl
    · exact v0
    · exact v8
    · exact v9
    · exact v15
    · exact v_ri,
   by
    intro p hp
    simp only [cs, List.mem_cons, List.not_mem_nil, or_false] at hp
    rcases hp with rfl | rfl | rfl | rfl | rfl
    · exact w0
    · exact w8
    · exact w9
    · exact w15
    · exact w_ri,
   by
    intro p hp
    simp only [cs, List.mem_cons, List.not_mem_nil, or_false] at hp
    rcases hp with rfl | rfl | rfl | rfl | rfl
    · exact (tab_mk t0 u0 v0 w0).empty (def_mk a0 l0 h0 k0).F (tabs "check_doors" _ (hq _ (by simp)) (PySem.W.mg_of X G a0))
    · exact (tab_mk t8 u8 v8 w8).empty (def_mk a8 l8 h8 k8).F (tabs "check_of" _ (hq _ (by simp)) (PySem.W.mg_of X G a8))
    · exact (tab_mk t9 u9 v9 w9).empty (def_mk a9 l9 h9 k9).F (tabs "is_thing" _ (hq _ (by simp)) (PySem.W.mg_of X G a9))
    · exact (tab_mk t15 u15 v15 w15).empty (def_mk a15 l15 h15 k15).F (tabs "law" _ (hq _ (by simp)) (PySem.W.mg_of X G a15))
    · exact em_ri⟩ X G hl hfa (pure_law _)
end M21
open PySem PySem.W PyProof.Rows
local macro_rules
  | `(tactic| o_head $H:term) => do
    if (H.raw.find? fun s => s.getId.eraseMacroScopes == `PL.moreTabs).isSome then Lean.Macro.throwUnsupported
    `(tactic| o_head (PL.moreTabs [202] $H))
set_option maxHeartbeats 0 in
theorem PySem.Challenge.cw_museum_k21_refusals_apart_holds : PySem.Challenge.rw_museum_k21_refusals_apart.Holds := by
  w_on; o_law; k_head; (case hw => w_witness2)
  k_fill
  refine PL.walk_all (l := PySem.Challenge.rw_museum_k21_refusals_apart) (n := 63) (k := 41) (x := "script") (CX := fun w => L2.CX PySem.Challenge.rw_museum_k21_refusals_apart.prog w) rfl (by decide) rfl ⟨rfl, by decide, by decide⟩ (fun w h Y => PySem.W.km_in_of Y.1) ?F ?C
  case F =>
    intro w mg fa h Y KX G hmg tabs
    refine' M21.fin KX G hmg tabs rfl ?hq ?a0 ?l0 ?h0 ?k0 ?t0 ?u0 ?v0 ?w0 ?a1 ?l1 ?h1 ?k1 ?a2 ?l2 ?h2 ?k2 ?a3 ?l3 ?h3 ?k3 ?a4 ?l4 ?h4 ?k4 ?a5 ?l5 ?h5 ?k5 ?a6 ?l6 ?h6 ?k6 ?a7 ?l7 ?h7 ?k7 ?a8 ?l8 ?h8 ?k8 ?t8 ?u8 ?v8 ?w8 ?a9 ?l9 ?h9 ?k9 ?t9 ?u9 ?v9 ?w9 ?a10 ?l10 ?h10 ?k10 ?a11 ?l11 ?h11 ?k11 ?a12 ?l12 ?h12 ?k12 ?a13 ?l13 ?h13 ?k13 ?a14 ?l14 ?h14 ?k14 ?a15 ?l15 ?h15 ?k15 ?t15 ?u15 ?v15 ?w15 ?n0 ?o0 ?q0 ?r0 ?y0 ?n1 ?o1 ?q1 ?r1 ?y1 ?n2 ?q2 ?r2 ?y2 ?n3 ?q3 ?r3 ?y3 ?n4 ?o4 ?q4 ?r4 ?y4 ?n5 ?o5 ?q5 ?r5 ?y5 ?n6 ?q6 ?r6 ?y6 ?ia0 ?ib0 ?id0 ?ie0 ?if0 ?ig0 ?ih0 ?ij0 ?ik0 ?il0 ?im0 ?io0 ?ip0 ?iq0 ?ir0 ?ia1 ?ib1 ?id1 ?ie1 ?if1 ?ig1 ?ih1 ?ij1 ?ik1 ?il1 ?im1 ?io1 ?ip1 ?iq1 ?ir1 ?isu ?itp ?zk_FIGURES ?z_ValueError ?z_abs ?z_all ?z_any ?z_bool ?z_enumerate ?z_int ?z_isinstance ?z_len ?z_list ?z_max ?z_min ?z_range ?z_sorted ?z_str ?z_sum ?z_tuple ?rns ?rc1 ?rc2 ?rc3 ?rc4 ?rn0 ?rn1 ?rn2 ?rn3 ?rm1 ?rm2 ?ra_ri ?rb_ri ?rk_ri ?rl_ri ?rh_ri ?ra_rp ?rb_rp ?rk_rp ?rl_rp ?rh_rp ?ra_rg ?rb_rg ?rk_rg ?rl_rg ?rh_rg ?t_ri ?u_ri ?v_ri ?w_ri ?em_ri ?ea0 ?eb0 ?ec0 ?ed0 ?ee0 ?eg0 ?ei00 ?ei01 ?ei02 ?ei03 ?ei04 ?ei05 ?ev0 ?ea1 ?eb1 ?ec1 ?ed1 ?ee1 ?eg1 ?ei10 ?ei11 ?ei12 ?ei13 ?ei14 ?ei15 ?ev1 ?ea2 ?eb2 ?ec2 ?ed2 ?ee2 ?eg2 ?ei20 ?ei21 ?ei22 ?ei23 ?ei24 ?ei25 ?ev2 ?ea3 ?eb3 ?ec3 ?ed3 ?ee3 ?eg3 ?ei30 ?ei31 ?ei32 ?ei33 ?ei34 ?ei35 ?ev3 ?ea4 ?eb4 ?ec4 ?ed4 ?ee4 ?eg4 ?ei40 ?ei41 ?ei42 ?ei43 ?ei44 ?ei45 ?ev4 ?ea5 ?eb5 ?ec5 ?ed5 ?ee5 ?eg5 ?ei50 ?ei51 ?ei52 ?ei53 ?ei54 ?ei55 ?ev5 ?hn7 ?ht7 ?off ?offm
    case hq => decide +kernel
    case a0 => k_is
    case l0 => k_is
    case h0 => k_is
    case k0 => k_is
    case t0 => k_is
    case u0 => (first | rfl | k_is)
    case v0 => kernel_rfl
    case w0 => kernel_rfl
    case a1 => k_is
    case l1 => k_is
    case h1 => k_is
    case k1 => k_is
    case a2 => k_is
    case l2 => k_is
    case h2 => k_is
    case k2 => k_is
    case a3 => k_is
    case l3 => k_is
    case h3 => k_is
    case k3 => k_is
    case a4 => k_is
    case l4 => k_is
    case h4 => k_is
    case k4 => k_is
    case a5 => k_is
    case l5 => k_is
    case h5 => k_is
    case k5 => k_is
    case a6 => k_is
    case l6 => k_is
    case h6 => k_is
    case k6 => k_is
    case a7 => k_is
    case l7 => k_is
    case h7 => k_is
    case k7 => k_is
    case a8 => k_is
    case l8 => k_is
    case h8 => k_is
    case k8 => k_is
    case t8 => k_is
    case u8 => (first | rfl | k_is)
    case v8 => kernel_rfl
    case w8 => kernel_rfl
    case a9 => k_is
    case l9 => k_is
    case h9 => k_is
    case k9 => k_is
    case t9 => k_is
    case u9 => (first | rfl | k_is)
    case v9 => kernel_rfl
    case w9 => kernel_rfl
    case a10 => k_is
    case l10 => k_is
    case h10 => k_is
    case k10 => k_is
    case a11 => k_is
    case l11 => k_is
    case h11 => k_is
    case k11 => k_is
    case a12 => k_is
    case l12 => k_is
    case h12 => k_is
    case k12 => k_is
    case a13 => k_is
    case l13 => k_is
    case h13 => k_is
    case k13 => k_is
    case a14 => k_is
    case l14 => k_is
    case h14 => k_is
    case k14 => k_is
    case a15 => k_is
    case l15 => k_is
    case h15 => k_is
    case k15 => k_is
    case t15 => k_is
    case u15 => (first | rfl | k_is)
    case v15 => kernel_rfl
    case w15 => kernel_rfl
    case n0 => k_is
    case o0 => kernel_rfl
    case q0 => k_is
    case r0 => k_is
    case y0 => k_is
    case n1 => k_is
    case o1 => kernel_rfl
    case q1 => k_is
    case r1 => k_is
    case y1 => k_is
    case n2 => k_is
    case q2 => k_is
    case r2 => k_is
    case y2 => k_is
    case n3 => k_is
    case q3 => k_is
    case r3 => k_is
    case y3 => k_is
    case n4 => k_is
    case o4 => kernel_rfl
    case q4 => k_is
    case r4 => k_is
    case y4 => k_is
    case n5 => k_is
    case o5 => kernel_rfl
    case q5 => k_is
    case r5 => k_is
    case y5 => k_is
    case n6 => k_is
    case q6 => k_is
    case r6 => k_is
    case y6 => k_is
    case ia0 => k_is
    case ib0 => k_is
    case id0 => k_is
    case ie0 => k_is
    case if0 => (first | rfl | k_is)
    case ig0 => (first | rfl | kernel_rfl | decide +kernel)
    case ih0 => k_is
    case ij0 => k_is
    case ik0 => kernel_rfl
    case il0 => k_is
    case im0 => kernel_rfl
    case io0 => k_is
    case ip0 => kernel_rfl
    case iq0 => k_is
    case ir0 => k_is
    case ia1 => k_is
    case ib1 => k_is
    case id1 => k_is
    case ie1 => k_is
    case if1 => (first | rfl | k_is)
    case ig1 => (first | rfl | kernel_rfl | decide +kernel)
    case ih1 => k_is
    case ij1 => k_is
    case ik1 => kernel_rfl
    case il1 => k_is
    case im1 => kernel_rfl
    case io1 => k_is
    case ip1 => kernel_rfl
    case iq1 => k_is
    case ir1 => k_is
    case isu => k_is
    case itp => k_is
    case zk_FIGURES => k_is
    case z_ValueError => k_is
    case z_abs => k_is
    case z_all => k_is
    case z_any => k_is
    case z_bool => k_is
    case z_enumerate => k_is
    case z_int => k_is
    case z_isinstance => k_is
    case z_len => k_is
    case z_list => k_is
    case z_max => k_is
    case z_min => k_is
    case z_range => k_is
    case z_sorted => k_is
    case z_str => k_is
    case z_sum => k_is
    case z_tuple => k_is
    case rns => k_is
    case rc1 => kernel_rfl
    case rc2 => kernel_rfl
    case rc3 => kernel_rfl
    case rc4 => k_is
    case rn0 => k_is
    case rn1 => k_is
    case rn2 => k_is
    case rn3 => k_is
    case rm1 => kernel_rfl
    case rm2 => k_is
    case ra_ri => k_is
    case rb_ri => kernel_rfl
    case rk_ri => k_is
    case rl_ri => k_is
    case rh_ri => k_is
    case ra_rp => k_is
    case rb_rp => kernel_rfl
    case rk_rp => k_is
    case rl_rp => k_is
    case rh_rp => k_is
    case ra_rg => k_is
    case rb_rg => kernel_rfl
    case rk_rg => k_is
    case rl_rg => k_is
    case rh_rg => k_is
    case t_ri => k_is
    case u_ri => (first | rfl | k_is)
    case v_ri => kernel_rfl
    case w_ri => kernel_rfl
    case em_ri => (exact Y.2 _ (by decide))
    case ea0 => k_is
    case eb0 => k_is
    case ec0 => k_is
    case ed0 => k_is
    case ee0 => kernel_rfl
    case eg0 => kernel_rfl
    case ei00 => kernel_rfl
    case ei01 => kernel_rfl
    case ei02 => kernel_rfl
    case ei03 => kernel_rfl
    case ei04 => kernel_rfl
    case ei05 => kernel_rfl
    case ev0 => kernel_rfl
    case ea1 => k_is
    case eb1 => k_is
    case ec1 => k_is
    case ed1 => k_is
    case ee1 => kernel_rfl
    case eg1 => kernel_rfl
    case ei10 => kernel_rfl
    case ei11 => kernel_rfl
    case ei12 => kernel_rfl
    case ei13 => kernel_rfl
    case ei14 => kernel_rfl
    case ei15 => kernel_rfl
    case ev1 => kernel_rfl
    case ea2 => k_is
    case eb2 => k_is
    case ec2 => k_is
    case ed2 => k_is
    case ee2 => kernel_rfl
    case eg2 => kernel_rfl
    case ei20 => kernel_rfl
    case ei21 => kernel_rfl
    case ei22 => kernel_rfl
    case ei23 => kernel_rfl
    case ei24 => kernel_rfl
    case ei25 => kernel_rfl
    case ev2 => kernel_rfl
    case ea3 => k_is
    case eb3 => k_is
    case ec3 => k_is
    case ed3 => k_is
    case ee3 => kernel_rfl
    case eg3 => kernel_rfl
    case ei30 => kernel_rfl
    case ei31 => kernel_rfl
    case ei32 => kernel_rfl
    case ei33 => kernel_rfl
    case ei34 => kernel_rfl
    case ei35 => kernel_rfl
    case ev3 => kernel_rfl
    case ea4 => k_is
    case eb4 => k_is
    case ec4 => k_is
    case ed4 => k_is
    case ee4 => kernel_rfl
    case eg4 => kernel_rfl
    case ei40 => kernel_rfl
    case ei41 => kernel_rfl
    case ei42 => kernel_rfl
    case ei43 => kernel_rfl
    case ei44 => kernel_rfl
    case ei45 => kernel_rfl
    case ev4 => kernel_rfl
    case ea5 => k_is
    case eb5 => k_is
    case ec5 => k_is
    case ed5 => k_is
    case ee5 => kernel_rfl
    case eg5 => kernel_rfl
    case ei50 => kernel_rfl
    case ei51 => kernel_rfl
    case ei52 => kernel_rfl
    case ei53 => kernel_rfl
    case ei54 => kernel_rfl
    case ei55 => kernel_rfl
    case ev5 => kernel_rfl
    case hn7 => k_is
    case ht7 => k_is
    case off => decide
    case offm => decide
  case C =>
    intro w H s e s' z
    obtain ⟨_, _, _, _, _, _, _, _, _, _, _, _, z⟩ := z
    exact z
