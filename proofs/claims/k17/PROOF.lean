import PyProof.Rows.All
import Wide.All
import OpenK.AllK
import Wide.FinOn
import PyProof.EqAt
import PyProof.EqKinds
import PyProof.TupleCall
import KE.KNest
import HandS.ForMost
import HandS.AnyAll
import HandS.GenOver
import HandS.GenList
import HandS.Deep
import HandS.Lambda
import HandS.Dict
import HandS.Iter
import KE.KDictKeyed
import KE.KDictDisplayH
import HandS.ForExc
import KE.DataEq
import KE.DataCmp
import KE.DataMinMax
import KE.DatumMoreOrd
import KE.SortData
import HandS.TupAny
import HandS.Style
import HandS.ExcOwn
import HandS.WordsExc
import HandS.Rev
import HandS.RevTup
import PyProof.ListNew
import PyProof.StrOps2
import HandS.TryMany
import HandS.EndOwn
import HandS.EndTab
import KE.KNestM
import HandS.SetFor
import KE.SortKeyed
import HandS.Conv
import HandS.Set
import HandS.SetKeys
import HandS.SetBool
import HandS.TupSets
import HandS.IsInst
import KE.KDictPairs
import HandS.ListItems
import HandS.DictTup
import PyProof.TupleOfSeq
import KE.KExcSuper
import HandS.ExcInit
import HandS.ExcField
import HandS.Nested
import HandS.TryOnly
import HandS.ExcIs
import HandS.ExcBuiltin
import HandS.CallSlots
import HandS.TupLen
import KE.KDictSum
import HandS.DictComp
import KE.DataFind
import KE.GoesEnum
import PySem.Challenge.RW_museum_k17_a_register_and_its_deeds
set_option Elab.async false
set_option linter.all false
set_option maxRecDepth 100000
set_option maxHeartbeats 2000000
namespace GxI
open PySem PySem.Spec PyProof.Rows L2
/-- the context of a generator expression's frame -/
abbrev gcx (X : Cx) (A : Around) (s : Shared) (H : Hp) (cenv : Env) (fp : List Addr) : Cx :=
  { X with A := A, s_0 := s, H_0 := H, env := cenv, outer := X.stack, stack := cenv :: X.stack, ex := fp, fn := fun _ => false, pn := [], xe := fun _ _ => False }
/-- the generator expression's own names -/
structure GxS (env : Env) (scope : Scope) : Prop where
  co : scope.isCoroutine = false
  nocell : ∀ y ∈ scope.names, y.2 ≠ .cell
  dot : scope.names.lookup (".0" : Str) = some NameKind.local
section
variable {X : Cx} {pins : List (Addr × Obj)} {σ : L2.St} {H : Hp} {s : Shared}
theorem clo_mem (I : Inv X pins σ H s) {scope : Scope} {own : List (Str × Nat)} (ok : BlkOk X.N X.env.scope scope own) {y : Str} {c : Addr} (hm : (cloFrom X.env.cells scope.names []).lookup y = some c) :
    X.env.cells.lookup y = some c ∧ c < s.heap.objs.size ∧ scope.names.lookup y = some .free := by
  rcases cloFrom_mem (PySem.mem_of_lookup hm) with hm | ⟨h1, rfl⟩
  · cases hm
  · have hc : ∃ c, X.env.cells.lookup y = some c := by
      rcases ok.free _ h1 rfl with k | k
      · exact I.ok.has _ (.inl k)
      · exact I.ok.has _ (.inr k)
    obtain ⟨c, hc⟩ := hc
    rw [hc]
    obtain ⟨w, z⟩ := I.cell _ _ hc
    exact ⟨rfl, z.lt, ok.uniq _ h1⟩
theorem gen_start {A : Around} {scope : Scope} {own : List (Str × Nat)} {fp : List Addr} {code : Value} {g' : Array GenState} {h' : Heap} {tk : Nat} {m : Str → Option Value}
    (I : Inv X pins σ H s) (ok : BlkOk X.N X.env.scope scope own) (gs : GxS X.env scope) (hN : X.N.Nodup) (hfp : ∀ b ∈ fp, FpOk X pins H b ∧ b < s.heap.objs.size)
    (hA : A.handled = none) (hAf : A.frames = some (genEnv scope (cloFrom X.env.cells scope.names []) s.heap.objs.size code builtinsNs X.env :: X.stack))
    (hns : h'.Ns s.heap.objs.size m) (kp : ∀ b o, s.heap.get? b = some o → h'.get? b = some o) (hg : AllBare g') :
    Inv (gcx X A s H (genEnv scope (cloFrom X.env.cells scope.names []) s.heap.objs.size code builtinsNs X.env) fp) [] (wipe σ (own.map (·.2))) H { s with heap := h', gens := g', toks := tk } := by
  generalize hce : genEnv scope (cloFrom X.env.cells scope.names []) s.heap.objs.size code builtinsNs X.env = ce at hAf ⊢
  have cL : ce.locals = s.heap.objs.size := by subst hce; rfl
  have cC : ce.cells = cloFrom X.env.cells scope.names [] := by subst hce; rfl
  have cS : ce.scope = scope := by subst hce; rfl
  have mem : ∀ {y c}, ce.cells.lookup y = some c → X.env.cells.lookup y = some c ∧ c < s.heap.objs.size ∧ scope.names.lookup y = some .free := fun {y c} e => by
    rw [cC] at e
    exact clo_mem I ok e
  have look : ∀ {y}, scope.names.lookup y = some .free → ∃ c, ce.cells.lookup y = some c ∧ X.env.cells.lookup y = some c := fun {y} hl => by
    obtain ⟨c', e'⟩ := mem_lookup (cloFrom_has (cells := X.env.cells) (acc := []) (PySem.mem_of_lookup hl))
    rw [← cC] at e'
    exact ⟨c', e', (mem e').1⟩
  have okB : (gcx X A s H ce fp).Ok := by
    refine ⟨I.ok.mod, by show ce.scope.kind = _; rw [cS]; exact ok.kind, by show ce.globals = _; rw [← hce]; exact I.ok.glob, by show ce.builtins = _; rw [← hce]; rfl, by show s.heap.objs.size ≤ ce.locals; rw [cL]; exact Nat.le_refl _,
      fun y z c e1 e2 => I.ok.inj y z c (mem e1).1 (mem e2).1, fun y hy => ?_, fun y c z e => ?_, fun _ => hA, hAf, .inr ⟨rfl, by show ce.frame = some ce.locals; rw [← hce]; rfl⟩, fun b hb => ⟨?_, fun y c e z => ?_⟩, I.bs, Nat.le_trans I.ok.bsz I.sz, fun b o e hb => ?_, fun b hb z => ?_, I.stack, I.stkFree⟩
    · show ∃ c, ce.cells.lookup y = some c
      have hy : ce.scope.names.lookup y = some .cell ∨ ce.scope.names.lookup y = some .free := hy
      rw [cS] at hy
      rcases hy with hy | hy
      · exact absurd rfl (gs.nocell _ (PySem.mem_of_lookup hy))
      · obtain ⟨c, h1, _⟩ := look hy
        exact ⟨c, h1⟩
    · cases z
    · show b ≠ ce.locals
      rw [cL]; exact Nat.ne_of_lt (hfp b hb).2
    · have e : ce.cells.lookup y = some c := e
      exact (hfp b hb).1.2.2.2.2.1 y c (mem e).1 z
    · rcases (hfp b hb).1.2.2.2.1 with z | z
      · exact I.ok.noex b o e z
      · exact absurd (Nat.lt_of_lt_of_le (Heap.lt_size e) (Nat.le_trans I.ok.bsz z)) (Nat.lt_irrefl _)
    · rcases List.mem_cons.mp (I.stkSub b z) with z | z
      · exact (hfp b hb).1.2.1 z
      · exact (hfp b hb).1.2.2.1 z
  refine ⟨okB, rfl, hg, Un.kept kp, ⟨m, ?_, fun i y av e1 e2 e3 => ?_⟩, fun y c e => ?_, ?_, fun y c e => ?_, fun p hp => absurd (show p ∈ ([] : List (Addr × Obj)) ++ [] from hp) (by simp), I.hok.kept kp, by rw [wipe_length]; exact I.len⟩
  · show Heap.Ns _ ce.locals _
    rw [cL]
    exact hns
  · obtain ⟨e2, hne⟩ := wipe_some e2
    have e3 : Vis ce.scope y := e3
    rw [cS] at e3
    have no : ¬ (scope.names.lookup y = some .local ∨ scope.names.lookup y = some .cell) := fun hh => by
      have hm : y ∈ own.map (·.1) ∨ y ∉ X.N := by
        rcases hh with hh | hh
        · exact ok.own _ (PySem.mem_of_lookup hh) (.inl rfl)
        · exact ok.own _ (PySem.mem_of_lookup hh) (.inr rfl)
      rcases hm with e' | e'
      · obtain ⟨p, hp, hpy⟩ := List.mem_map.mp e'
        have e3 := ok.ix p hp
        have : p.1 = y := hpy
        rw [this] at e3
        exact hne (List.mem_map.mpr ⟨p, hp, nodup_ix hN e3 e1⟩)
      · exact e' (List.mem_of_getElem? e1)
    have hfr : scope.names.lookup y = some .free := by
      rcases e3 with e3 | e3 | e3
      · exact absurd (.inl e3) no
      · exact absurd (.inr e3) no
      · exact e3
    obtain ⟨m, hn, hl⟩ := I.loc
    have hvis : Vis X.env.scope y := (ok.free _ (PySem.mem_of_lookup hfr) rfl).elim (fun k => .inr (.inl k)) (fun k => .inr (.inr k))
    obtain ⟨w, r, q⟩ := hl i y av e1 e2 hvis
    refine ⟨w, r, .inr ⟨.inr (by show ce.scope.names.lookup y = _; rw [cS]; exact hfr), ?_⟩⟩
    obtain ⟨c, h1, h2⟩ := look hfr
    rcases q with ⟨k, _⟩ | ⟨_, c', e', z⟩
    · have k : X.env.scope.names.lookup y = some .local := k
      rcases ok.free _ (PySem.mem_of_lookup hfr) rfl with k' | k' <;> rw [show X.env.scope.names.lookup y = _ from k'] at k <;> cases k
    · rw [h2] at e'; cases e'
      exact ⟨c, h1, z.keeps kp⟩
  · have e : ce.cells.lookup y = some c := e
    obtain ⟨w, z⟩ := I.cell y c (mem e).1
    exact ⟨w, z.keeps kp⟩
  · show H ce.locals = none
    rw [cL]; exact I.hok.fresh (Nat.le_refl _)
  · have e : ce.cells.lookup y = some c := e
    exact I.freeC y c (mem e).1
end
/-- what the consumer may do while the generator sleeps; S: its own objects -/
structure Kp (S : List Addr) (s s' : Shared) : Prop where
  os : s'.os = s.os
  bare : AllBare s'.gens
  gsz : s.gens.size ≤ s'.gens.size
  keep : ∀ b o, b ∉ S → s.heap.get? b = some o → s'.heap.get? b = some o
  own : ∀ b ∈ S, ∀ o, s.heap.get? b = some o → ∃ o', s'.heap.get? b = some o' ∧ ∀ v, o'.data ≠ .cell v
theorem Kp.refl {S : List Addr} {s : Shared} (h : AllBare s.gens) (hS : ∀ b ∈ S, ∀ o, s.heap.get? b = some o → ∀ v, o.data ≠ .cell v) : Kp S s s := ⟨rfl, h, Nat.le_refl _, fun _ _ _ e => e, fun b hb o e => ⟨o, e, hS b hb o e⟩⟩
structure SApart (Xg : Cx) (S : List Addr) (a : Addr) (fp : List Addr) : Prop where
  size : ∀ b ∈ S, Xg.s_0.heap.objs.size ≤ b
  loc : ∀ b ∈ S, b ≠ Xg.env.locals
  cell : ∀ b ∈ S, ∀ x c, Xg.env.cells.lookup x = some c → c ≠ b
  gen : ∀ b ∈ S, b ≠ a
  fp : ∀ b ∈ S, b ∉ fp
def GSt (Xg : Cx) (S : List Addr) (a : Addr) (go : Obj) (fp : List Addr) (tn : Nat → Heap → Prop) (Gd : Nat → Hp → Prop) (σ : L2.St) (i : Nat) (s : Shared) : Prop :=
  ∃ H pl, pl.map (·.1) = S ∧ Inv Xg ((a, go) :: pl) σ H s ∧ tn i s.heap ∧ (∀ b ∈ fp, H b = none) ∧ Gd i H
def GEd (Xg : Cx) (S : List Addr) (a : Addr) (go : Obj) (Gd : Nat → Hp → Prop) (σ : L2.St) (n : Nat) (s : Shared) : Prop :=
  ∃ H pl, pl.map (·.1) = S ∧ Inv Xg ((a, go) :: pl) σ H s ∧ Gd n H
theorem inv_kp {Xg : Cx} {S : List Addr} {a : Addr} {go : Obj} {fp : List Addr} {pl : List (Addr × Obj)} {σ : L2.St} {H : Hp} {s s' : Shared} (hpn : Xg.pn = []) (ap : SApart Xg S a fp)
    (hpl : pl.map (·.1) = S) (I : Inv Xg ((a, go) :: pl) σ H s) (k : Kp S s s') : ∃ pl', pl'.map (·.1) = S ∧ Inv Xg ((a, go) :: pl') σ H s' := by
  have pin : ∀ p ∈ (a, go) :: pl, s.heap.get? p.1 = some p.2 ∧ H p.1 = none ∧ p.1 ≠ Xg.env.locals ∧ p.1 ∉ Xg.fs ∧ ∀ v, p.2.data ≠ .cell v := fun p hp => I.pin p (List.mem_append_right _ hp)
  have I0 : Inv Xg [(a, go)] σ H s := I.pins_of fun p hp => pin p (by rw [List.mem_singleton.mp hp]; exact List.mem_cons_self)
  have hS : ∀ b ∈ S, ∃ o, (b, o) ∈ pl := fun b hb => by
    rw [← hpl] at hb
    obtain ⟨p, hp, e⟩ := List.mem_map.mp hb
    exact ⟨p.2, by rw [← e]; exact hp⟩
  have nS : ∀ b ∈ S, H b = none := fun b hb => by
    obtain ⟨o, ho⟩ := hS b hb
    exact (pin _ (List.mem_cons_of_mem _ ho)).2.1
  have nt : ∀ b u, H b = some u → b ∉ S := fun b u q hb => by
    rw [nS b hb] at q
    cases q
  obtain ⟨z1, z2, _, z3, z4⟩ := k
  obtain ⟨hh, g, d, t, o⟩ := s'
  have ho : o = s.os := z1
  subst ho
  have J : Inv Xg [(a, go)] σ H { s with heap := hh, gens := g, drawn := d, toks := t } := by
    refine I0.step (g' := g) (t' := t) (d' := d) (ch := S) (fun b hb => ?_)
      (fun b ob _ _ hc q _ => z3 b ob hc q) (fun b ob _ _ hc q _ => ⟨ob.slots, z3 b ob hc q⟩) (fun _ _ _ _ n => n) (fun b ob hc q => ⟨ob, z3 b ob hc q⟩)
      (fun _ _ q => q) (fun _ _ _ q => q) (fun b ps q => ⟨#[], by rw [q]; simp⟩) (fun m hm => ?_) (fun b u q => ?_) z2
    · refine ⟨.inr (ap.size b hb), ap.loc b hb, fun x c e => ap.cell b hb x c e, fun p hp => ?_⟩
      rw [hpn] at hp
      have hp : p ∈ [(a, go)] := hp
      rw [List.mem_singleton.mp hp]
      exact fun e => ap.gen b hb e.symm
    · obtain ⟨ob, es, ep, ho, r⟩ := hm
      exact ⟨ob, es, ep, z3 _ ob (fun hb => ap.loc _ hb rfl) ho, r⟩
    · refine (I0.hok b u q).stay (fun c v hc y => z3 c v ?_ y) (fun _ y => y) fun _ _ y => y
      rcases hc with y | y
      · rw [y]; exact nt b u q
      · exact nt c _ y
  have ex : ∀ pl : List (Addr × Obj), (∀ p ∈ pl, p.1 ∈ S ∧ s.heap.get? p.1 = some p.2) → ∃ pl' : List (Addr × Obj), pl'.map (·.1) = pl.map (·.1) ∧ ∀ p ∈ pl', p.1 ∈ S ∧ hh.get? p.1 = some p.2 ∧ ∀ v, p.2.data ≠ .cell v := fun pl => by
    induction pl with
    | nil => exact fun _ => ⟨[], rfl, fun p hp => by cases hp⟩
    | cons p r ih =>
      intro h
      obtain ⟨r', e1, e2⟩ := ih fun q hq => h q (List.mem_cons_of_mem _ hq)
      obtain ⟨hp1, hp2⟩ := h p List.mem_cons_self
      obtain ⟨o', h1, h2⟩ := z4 p.1 hp1 p.2 hp2
      refine ⟨(p.1, o') :: r', by rw [List.map_cons, List.map_cons, e1], fun q hq => ?_⟩
      rcases List.mem_cons.mp hq with e | hq
      · rw [e]
        exact ⟨hp1, h1, h2⟩
      · exact e2 q hq
  obtain ⟨pl', e1, e2⟩ := ex pl fun p hp => ⟨by rw [← hpl]; exact List.mem_map.mpr ⟨p, hp, rfl⟩, (pin p (List.mem_cons_of_mem _ hp)).1⟩
  refine ⟨pl', e1.trans hpl, J.pins_of fun p hp => ?_⟩
  rcases List.mem_cons.mp hp with e | hp
  · rw [e]
    exact J.pin (a, go) (List.mem_append_right _ List.mem_cons_self)
  · obtain ⟨h1, h2, h3⟩ := e2 p hp
    obtain ⟨o, ho⟩ := hS _ h1
    obtain ⟨_, _, _, y, _⟩ := pin _ (List.mem_cons_of_mem _ ho)
    exact ⟨h2, nS _ h1, ap.loc _ h1, y, h3⟩
theorem GSt.kp {Xg : Cx} {S : List Addr} {a : Addr} {go : Obj} {fp : List Addr} {tn : Nat → Heap → Prop} {Gd : Nat → Hp → Prop} {σ : L2.St} {i : Nat} {s s' : Shared} {P : Program} {w : World} {K : PySem.W.Frag} {tg : Expr} {J : It} {it : Addr}
    (T : Turn P w K tg J fp it tn) (hpn : Xg.pn = []) (ap : SApart Xg S a fp) (h : GSt Xg S a go fp tn Gd σ i s) (k : Kp S s s') : GSt Xg S a go fp tn Gd σ i s' := by
  obtain ⟨H, pl, e, I, st, nf, gd⟩ := h
  obtain ⟨pl', e', I'⟩ := inv_kp hpn ap e I k
  exact ⟨H, pl', e', I', T.keep _ _ _ st fun b hb o q => k.keep b o (fun hs => ap.fp b hs hb) q, nf, gd⟩
/-- the turns: tests, values; Gd: what holds of the heap at each -/
structure TurnsOk (J : It) (g : TG) (tt : TT) (te : TE) (vs : List Nat) (σw : L2.St) (n : Nat) (pz : Nat → Bool) (yv : Nat → V) (Gd : Nat → Hp → Prop) : Prop where
  turn : ∀ i H, i < n → Gd i H → J.go i H ∧ ∀ x H', J.yld i H x H' → g x σw H' fun σ2 H2 => wipe σ2 vs = σw ∧ tt σ2 H2 fun b H3 => b = pz i ∧ (b = true → te σ2 H3 fun y H4 => y = yv i ∧ Gd (i + 1) H4) ∧ (b = false → Gd (i + 1) H3)
  stop : ∀ H, Gd n H → J.stop n H
/-- the consumer's objects stand as they stood -/
def SameS (S : List Addr) (s s' : Shared) : Prop := ∀ b ∈ S, ∀ o, s.heap.get? b = some o → s'.heap.get? b = some o
theorem SameS.pins {Xg : Cx} {S : List Addr} {a : Addr} {go : Obj} {pl r : List (Addr × Obj)} {σ σ' : L2.St} {H H' : Hp} {s₀ s s' : Shared} (h : SameS S s₀ s) (epl : pl.map (·.1) = S) (I : Inv Xg ((a, go) :: pl) σ H s) (I' : Inv Xg (((a, go) :: pl) ++ r) σ' H' s') : SameS S s₀ s' := fun b hb o e => by
  have e1 := h b hb o e
  rw [← epl] at hb
  obtain ⟨p, hp, ep⟩ := List.mem_map.mp hb
  have h1 := (I.pin p (List.mem_append_right _ (List.mem_cons_of_mem _ hp))).1
  have h2 := (I'.pin p (List.mem_append_right _ (List.mem_append_left _ (List.mem_cons_of_mem _ hp)))).1
  rw [ep, e1] at h1
  rw [ep] at h2
  exact h2.trans h1.symm
def gR (Xg : Cx) (S : List Addr) (a : Addr) (go : Obj) (Gd : Nat → Hp → Prop) (σ : L2.St) (n₀ g : Nat) : Nat → Shared → Shared → Prop := fun n s₀ s₁ => n = 0 ∧ g < s₁.gens.size ∧ SameS S s₀ s₁ ∧ GEd Xg S a go Gd σ n₀ s₁
def gY (Xg : Cx) (S : List Addr) (a : Addr) (go : Obj) (fp : List Addr) (tn : Nat → Heap → Prop) (Gd : Nat → Hp → Prop) (σ : L2.St) (n₀ g : Nat) (pz : Nat → Bool) (yv : Nat → V) : Protocol := fun m s₀ v s kap =>
  (∃ i, (passing pz n₀ 0)[(passing pz n₀ 0).length - 1 - m]? = some i ∧ RelV (yv i) v ∧ GSt Xg S a go fp tn Gd σ (i + 1) s) ∧ g < s.gens.size ∧ SameS S s₀ s ∧ ∀ s'', Kp S s s'' → kap (.send .none) s''
theorem seg_gl {Xg : Cx} {A : Around} {elt tg iter : Expr} {ifs : List Expr} {scope : Scope} {pos : Pos} {it a : Addr} {fp : List Addr} {tn : Nat → Heap → Prop} {J : It} {go : Obj} {S : List Addr} {g : Nat} {gt : TG} {tt : TT} {te : TE} {vs : List Nat} {σw : L2.St} {n₀ : Nat} {pz : Nat → Bool} {yv : Nat → V} {Gd : Nat → Hp → Prop}
    (hA : Xg.A = A.over (.compLoop (.GeneratorExp elt [⟨tg, iter, ifs, 0⟩] scope pos) 0 (.ref it) .none Xg.env) []) (hc : Xg.calm = true) (hco : Xg.env.scope.isCoroutine = false) (hpn : Xg.pn = []) (hex : Xg.ex = fp) (hxe : Xg.xe = fun _ _ => False)
    (T : Turn Xg.prog Xg.w Xg.K tg J fp it tn) (ap : SApart Xg S a fp) (haf : a ∉ fp) (hSf : ∀ b ∈ S, b ∉ fp) (pg : PG Xg tg gt) (pt : PTs Xg ifs tt) (pe : PE Xg elt te) (TO : TurnsOk J gt tt te vs σw n₀ pz yv Gd) :
    ∀ (k i : Nat) (s₀ s : Shared), n₀ - i = k → i ≤ n₀ → g < s.gens.size → SameS S s₀ s → GSt Xg S a go fp tn Gd σw i s →
      Seg (model Xg.prog Xg.w) A (fun n s₀ r s₁ => r = .ok .next ∧ gR Xg S a go Gd σw n₀ g n s₀ s₁) (gY Xg S a go fp tn Gd σw n₀ g pz yv) (passing pz n₀ i).length s₀
        (.compLoop (.GeneratorExp elt [⟨tg, iter, ifs, 0⟩] scope pos) 0 (.ref it) .none Xg.env)
        ((model Xg.prog Xg.w).den (.compLoop (.GeneratorExp elt [⟨tg, iter, ifs, 0⟩] scope pos) 0 (.ref it) .none Xg.env)) [] s := by
  have stat : ∀ {σ' : L2.St} {H' : Hp} {s' : Shared} {pl : List (Addr × Obj)}, pl.map (·.1) = S → Inv Xg ((a, go) :: pl) σ' H' s' → (∀ b ∈ fp, H' b = none) → ∀ b ∈ fp, FpOk Xg ((a, go) :: pl) H' b := fun {σ' H' s' pl} epl I' hn b hb => by
    have hbx : b ∈ Xg.ex := by rw [hex]; exact hb
    refine ⟨hn b hb, (I'.ok.exf b hbx).1, I'.ok.exfs b hbx, .inl hbx, fun x c e => (I'.ok.exf b hbx).2 x c e, fun p hp => ?_⟩
    rw [hpn] at hp
    rcases List.mem_cons.mp (show p ∈ (a, go) :: pl from hp) with e | hp
    · rw [e]
      exact fun z => haf (by rw [show a = b from z]; exact hb)
    · exact fun z => hSf p.1 (by rw [← epl]; exact List.mem_map.mpr ⟨p, hp, rfl⟩) (by rw [z]; exact hb)
  intro k
  induction k with
  | zero =>
    intro i s₀ s hk hi hgs hss hst
    have hin : i = n₀ := by omega
    subst hin
    obtain ⟨H, pl, epl, I, st, nf, gd⟩ := hst
    show Seg _ A _ _ _ s₀ _ ((compTurn (.GeneratorExp elt [⟨tg, iter, ifs, 0⟩] scope pos) 0 (.ref it) .none Xg.env).onRaise (leaving Xg.env)) [] s
    rw [compTurn_gen, Sem.onRaise_eq_wrap]
    refine seg_bind_wrap (wpAny_standAt ?_)
    refine seg_bind_wrap ?_
    rw [← hA]
    have td := T.done Xg rfl rfl rfl hc i _ s _ H (fun _ _ => False) I (stat epl I nf) st (TO.stop H gd)
    refine GenW.wpAny_gsz (Nat.succ_le_of_lt hgs) (thnF td fun r s6 ⟨hr, I6⟩ hg6 => ?_)
    subst hr
    exact seg_end (.ok .next) ⟨rfl, by rw [passing_end]; rfl, hg6, hss.pins (r := []) epl I (by rw [List.append_nil]; exact I6), H, pl, epl, I6, gd⟩
  | succ k ih =>
    intro i s₀ s hk hi hgs hss hst
    have hlt : i < n₀ := by omega
    obtain ⟨H, pl, epl, I, st, nf, gd⟩ := hst
    obtain ⟨jgo, step⟩ := TO.turn i H hlt gd
    show Seg _ A _ _ _ s₀ _ ((compTurn (.GeneratorExp elt [⟨tg, iter, ifs, 0⟩] scope pos) 0 (.ref it) .none Xg.env).onRaise (leaving Xg.env)) [] s
    rw [compTurn_gen, Sem.onRaise_eq_wrap]
    refine seg_bind_wrap (wpAny_standAt ?_)
    refine seg_bind_wrap ?_
    rw [← hA]
    have ti := T.item Xg rfl rfl rfl hc i _ s _ H (fun _ _ => False) I (stat epl I nf) st jgo
    refine GenW.wpAny_gsz (Nat.succ_le_of_lt hgs) (thnF ti fun r s6 ⟨u, hr, h6⟩ hg6 => ?_)
    subst hr
    refine seg_bind_wrap ?_
    rw [← hA]
    refine GenW.wpAny_gsz hg6 (thnF h6 fun _ s7 ⟨x, H7, I7, r7, y7, st7, n7⟩ hg7 => ?_)
    have I7' := I7.pinned (stat epl I7 n7) (T.obj _ _ st7)
    refine seg_bind_wrap ?_
    rw [← hA]
    have p1 := pg.run _ s7 _ H7 x u _ I7' r7 (step x H7 y7)
    rw [hxe] at p1
    refine GenW.wpAny_gsz hg7 (thnF p1 fun _ s8 ⟨σ8, H8, I8, hw8, q8⟩ hg8 => ?_)
    refine seg_bind_wrap ?_
    rw [← hA]
    have p2 := pt.run _ s8 σ8 H8 _ I8 q8
    rw [hxe] at p2
    refine GenW.wpAny_gsz hg8 (thnF p2 fun b s9 ⟨H9, I9, hb9, q9, q9'⟩ hg9 => ?_)
    have hwl : σw.length = σ8.length := by rw [← hw8, wipe_length]
    have fin : ∀ {s' : Shared} {H' : Hp}, Inv Xg (((a, go) :: pl) ++ pinsAt fp s7.heap) σ8 H' s' → Gd (i + 1) H' → GSt Xg S a go fp tn Gd σw (i + 1) s' := fun {s' H'} I' nx => by
      have pin' : ∀ b ∈ fp, ∀ o, s7.heap.get? b = some o → s'.heap.get? b = some o ∧ H' b = none := fun b hb o e =>
        let z := I'.pin (b, o) (List.mem_append_right _ (List.mem_append_right _ (mem_pinsAt hb e)))
        ⟨z.1, z.2.1⟩
      refine ⟨H', pl, epl, (I'.unpinned).weak hwl (fun j v e => ?_), T.keep _ _ _ st7 fun b hb o e => (pin' b hb o e).1, fun b hb => ?_, nx⟩
      · rw [← hw8] at e
        exact (wipe_some e).1
      · obtain ⟨o, e, _⟩ := T.obj _ _ st7 b hb
        exact (pin' b hb o e).2
    cases b with
    | false =>
      rw [passing_false hlt hb9.symm]
      simp only [Bool.false_eq_true, if_false]
      exact seg_again rfl (ih (i + 1) s₀ _ (by omega) hlt hg9 (hss.pins epl I I9) (fin I9 (q9' rfl)))
    | true =>
      rw [passing_true hlt hb9.symm, List.length_cons]
      simp only [if_true]
      have hy : ∀ v, yieldOut Xg.env v = yieldValue v := fun v => by simp only [yieldOut, hco, Bool.false_eq_true, if_false]
      simp only [hy]
      rw [Sem.bind_eq_wrap', Sem.bind_eq_wrap', Sem.wrap_wrap, Sem.wrap_wrap]
      refine seg_wrap ?_
      rw [← hA]
      have p3 := pe.run _ s9 σ8 H9 _ I9 (q9 rfl)
      rw [hxe] at p3
      refine GenW.wpAny_gsz hg9 (thnF p3 fun y s10 ⟨yV, H10, I10, ry, ey, gd10⟩ hg10 => ?_)
      subst ey
      have st10 := fin I10 gd10
      refine seg_at (seg_yield rfl rfl rfl ⟨⟨i, passing_here hlt hb9.symm, ry, st10⟩, hg10, hss.pins epl I I10, fun s'' hal => ?_⟩)
      exact seg_again rfl (ih (i + 1) s'' s'' (by omega) hlt (Nat.lt_of_lt_of_le hg10 hal.gsz) (fun _ _ _ e => e) (st10.kp T hpn ap hal))
end GxI
set_option Elab.async false
set_option linter.all false
set_option maxRecDepth 100000
set_option maxHeartbeats 2000000
namespace GxI
open PySem PySem.Spec PyProof.Rows L2
/-- the generator sleeps, j items are out -/
structure GAt (Xg : Cx) (A0 : Around) (S : List Addr) (a : Addr) (go : Obj) (fp : List Addr) (tn : Nat → Heap → Prop) (Gd : Nat → Hp → Prop) (σ : L2.St) (n₀ g : Nat) (pz : Nat → Bool) (yv : Nat → V) (j : Nat) (s : Shared) : Prop where
  cur : ∃ i, GEd Xg S a go Gd σ i s
  gsz : g < s.gens.size
  gs : ∃ gs, s.gens[g]? = some gs ∧ ∀ s'', Kp S s s'' → gs.Goes (model Xg.prog Xg.w) A0.in1 (fun n s₀ r s₁ => r = .ok .next ∧ gR Xg S a go Gd σ n₀ g n s₀ s₁) (gY Xg S a go fp tn Gd σ n₀ g pz yv) ((passing pz n₀ 0).length - j) (.send .none) s''
section
variable {Xg : Cx} {A0 : Around} {S : List Addr} {a : Addr} {go : Obj} {fp : List Addr} {tn : Nat → Heap → Prop} {Gd : Nat → Hp → Prop} {σ : L2.St} {n₀ g : Nat} {pz : Nat → Bool} {yv : Nat → V} {j : Nat} {s s' : Shared}
theorem Kp.trans {S : List Addr} {s s1 s2 : Shared} (x : Kp S s s1) (y : Kp S s1 s2) : Kp S s s2 :=
  ⟨y.os.trans x.os, y.bare, Nat.le_trans x.gsz y.gsz, fun b o hb e => y.keep b o hb (x.keep b o hb e), fun b hb o e => by
    obtain ⟨o', e', _⟩ := x.own b hb o e
    exact y.own b hb o' e'⟩
theorem GEd.kp (hpn : Xg.pn = []) (ap : SApart Xg S a fp) {i : Nat} (h : GEd Xg S a go Gd σ i s) (k : Kp S s s') : GEd Xg S a go Gd σ i s' := by
  obtain ⟨H, pl, e, I, gd⟩ := h
  obtain ⟨pl', e', I'⟩ := inv_kp hpn ap e I k
  exact ⟨H, pl', e', I', gd⟩
theorem GSt.ed {i : Nat} (h : GSt Xg S a go fp tn Gd σ i s) : GEd Xg S a go Gd σ i s := by
  obtain ⟨H, pl, e, I, _, _, gd⟩ := h
  exact ⟨H, pl, e, I, gd⟩
theorem GEd.nocell {i : Nat} (h : GEd Xg S a go Gd σ i s) : ∀ b ∈ S, ∀ o, s.heap.get? b = some o → ∀ v, o.data ≠ .cell v := fun b hb o e v => by
  obtain ⟨H, pl, epl, I, _⟩ := h
  rw [← epl] at hb
  obtain ⟨p, hp, ep⟩ := List.mem_map.mp hb
  obtain ⟨h1, _, _, _, h2⟩ := I.pin p (List.mem_append_right _ (List.mem_cons_of_mem _ hp))
  rw [ep, e] at h1
  cases h1
  exact h2 v
theorem GEd.bare {i : Nat} (h : GEd Xg S a go Gd σ i s) : AllBare s.gens := by
  obtain ⟨H, pl, epl, I, _⟩ := h
  exact I.bare
theorem GEd.gen {i : Nat} (h : GEd Xg S a go Gd σ i s) : s.heap.get? a = some go := by
  obtain ⟨H, pl, epl, I, _⟩ := h
  exact (I.pin (a, go) (List.mem_append_right _ List.mem_cons_self)).1
theorem GEd.nolimit {i : Nat} (h : GEd Xg S a go Gd σ i s) : s.heap.NoLimit := by
  obtain ⟨H, pl, epl, I, _⟩ := h
  exact I.nolimit
/-- the consumer has done what it may -/
theorem GAt.kp (hpn : Xg.pn = []) (ap : SApart Xg S a fp) (h : GAt Xg A0 S a go fp tn Gd σ n₀ g pz yv j s) (k : Kp S s s') (hg : s'.gens = s.gens) : GAt Xg A0 S a go fp tn Gd σ n₀ g pz yv j s' := by
  obtain ⟨⟨i, c⟩, z, gs, e, q⟩ := h
  exact ⟨⟨i, c.kp hpn ap k⟩, by rw [hg]; exact z, gs, by rw [hg]; exact e, fun s'' k' => q s'' (k.trans k')⟩
theorem kp_setGen {i : Nat} {x : GenState} (c : GEd Xg S a go Gd σ i s) (hx : x.bare = true) : Kp S s (s.setGen g x) :=
  ⟨rfl, L2.allBare_setGen c.bare hx, by rw [GenW.setGen_size]; exact Nat.le_refl _, fun _ _ _ e => e, fun b hb o e => ⟨o, e, c.nocell b hb o e⟩⟩
theorem kp_heap {i : Nat} {h' : Heap} {tk : Nat} (c : GEd Xg S a go Gd σ i s) (k : ∀ b o, s.heap.get? b = some o → h'.get? b = some o) : Kp S s { s with heap := h', toks := tk } :=
  ⟨rfl, c.bare, Nat.le_refl _, fun b o _ e => k b o e, fun b hb o e => ⟨o, k b o e, c.nocell b hb o e⟩⟩
variable {Q : Option Value → Shared → Prop} {E : Value → Shared → Prop}
theorem GAt.item (hpn : Xg.pn = []) (ap : SApart Xg S a fp) (hgo : ∀ h : Heap, h.get? a = some go → h.IsGen a g) (hh : A0.handled = none) (hroom : A0.depth < recursionLimit) (hj : j < (passing pz n₀ 0).length) (h : GAt Xg A0 S a go fp tn Gd σ n₀ g pz yv j s)
    (hQ : ∀ v s' i, (passing pz n₀ 0)[j]? = some i → RelV (yv i) v → SameS S s s' → GAt Xg A0 S a go fp tn Gd σ n₀ g pz yv (j + 1) s' → Q (some v) s') : wpAny (model Xg.prog Xg.w) A0 (pyNext (.ref a)) Q E s := by
  obtain ⟨⟨i0, c⟩, z, gs, e, q⟩ := h
  obtain ⟨m, hm⟩ : ∃ m, (passing pz n₀ 0).length - j = m + 1 := ⟨(passing pz n₀ 0).length - j - 1, by omega⟩
  have q1 := q _ (kp_setGen (g := g) (x := .running) c rfl)
  rw [hm] at q1
  refine wpAny_pyNext_genexpQ (P := gR Xg S a go Gd σ n₀ g) hh c.nolimit hroom (hgo _ c.gen) e q1 (fun v s₁ gs' hb hv => ?_) (fun s₁ hp h' hk => ?_)
  · obtain ⟨⟨i, hi, hF, hst⟩, hgz, hss, hkap⟩ := hv
    have hidx : (passing pz n₀ 0).length - 1 - (m + 1 - 1) = j := by omega
    rw [hidx] at hi
    refine hQ v _ i hi hF hss ⟨⟨i + 1, hst.ed.kp hpn ap (kp_setGen hst.ed hb)⟩, by rw [GenW.setGen_size]; exact hgz, gs', L2.setGen_at hgz, fun s'' k => ?_⟩
    have e2 : (passing pz n₀ 0).length - (j + 1) = m := by omega
    rw [e2]
    exact hkap s'' ((kp_setGen hst.ed hb).trans k)
  · exact absurd hp.1 (Nat.succ_ne_zero m)
theorem GAt.done (hpn : Xg.pn = []) (ap : SApart Xg S a fp) (hgo : ∀ h : Heap, h.get? a = some go → h.IsGen a g) (hh : A0.handled = none) (hroom : A0.depth < recursionLimit) (hj : j = (passing pz n₀ 0).length) (h : GAt Xg A0 S a go fp tn Gd σ n₀ g pz yv j s)
    (hQ : ∀ s', SameS S s s' → GEd Xg S a go Gd σ n₀ s' → Q none s') : wpAny (model Xg.prog Xg.w) A0 (pyNext (.ref a)) Q E s := by
  obtain ⟨⟨i0, c⟩, z, gs, e, q⟩ := h
  have q1 := q _ (kp_setGen (g := g) (x := .running) c rfl)
  rw [show (passing pz n₀ 0).length - j = 0 by omega] at q1
  refine wpAny_pyNext_genexpQ (P := gR Xg S a go Gd σ n₀ g) hh c.nolimit hroom (hgo _ c.gen) e q1 (fun v s₁ gs' hb hv => ?_) (fun s₁ hp h' hk => ?_)
  · obtain ⟨⟨i, hi, hF, hst⟩, hgz, _, hkap⟩ := hv
    exact False.elim (hkap s₁ (Kp.refl hst.ed.bare hst.ed.nocell))
  · obtain ⟨_, hgz, hss, ced⟩ := hp
    have k1 : Kp S s₁ (s₁.setGen g .finished) := kp_setGen ced rfl
    have c1 := ced.kp hpn ap k1
    exact hQ _ (fun b hb o e => hk b o (hss b hb o e)) (c1.kp hpn ap (kp_heap (tk := (s₁.setGen g .finished).toks) c1 hk))
theorem GAt.toks (hpn : Xg.pn = []) (ap : SApart Xg S a fp) (tk : Nat) (h : GAt Xg A0 S a go fp tn Gd σ n₀ g pz yv j s) : GAt Xg A0 S a go fp tn Gd σ n₀ g pz yv j { s with toks := tk } := by
  obtain ⟨⟨i0, c⟩, _⟩ := _root_.id h
  exact h.kp hpn ap (kp_heap c fun _ _ e => e) rfl
theorem GAt.ed (h : GAt Xg A0 S a go fp tn Gd σ n₀ g pz yv j s) : ∃ i, GEd Xg S a go Gd σ i s := h.cur
end
section
variable {Xg : Cx} {A : Around} {S : List Addr} {a : Addr} {go : Obj} {fp : List Addr} {tn : Nat → Heap → Prop} {Gd : Nat → Hp → Prop} {σ : L2.St} {n₀ g : Nat} {pz pb : Nat → Bool} {R : Result → Shared → Prop}
theorem drop_cons {α : Type} {l : List α} {j : Nat} {x : α} (h : l[j]? = some x) : l.drop j = x :: l.drop (j + 1) := by
  obtain ⟨hj, e⟩ := List.getElem?_eq_some_iff.mp h
  rw [List.drop_eq_getElem_cons hj, e]
theorem any_loopG (hpn : Xg.pn = []) (ap : SApart Xg S a fp) (hgo : ∀ h : Heap, h.get? a = some go → h.IsGen a g) (hh : A.in1.handled = none) (hroom : A.in1.depth < recursionLimit) :
    ∀ (k j : Nat) (s : Shared), (passing pz n₀ 0).length - j = k → j ≤ (passing pz n₀ 0).length → GAt Xg A.in1 S a go fp tn Gd σ n₀ g pz (fun i => .bl (pb i)) j s →
    (∀ s' i, GEd Xg S a go Gd σ i s' → R (.ok (.ret (.bool (((passing pz n₀ 0).drop j).any pb)))) s') → codeAny (model Xg.prog Xg.w) A (.builtin "any.loop" ⟨[.ref a], []⟩) R s := by
  intro k
  induction k with
  | zero =>
    intro j s hk hj h hR
    have hjn : j = (passing pz n₀ 0).length := by omega
    refine codeAny_builtin F.entry_any_loop ?_
    rw [Around.under_plainId F.plain_any_loop _]
    show wpAny _ A.in1 (pyNext (.ref a) >>= _) _ _ s
    refine wpAny_bind (h.done hpn ap hgo hh hroom hjn fun s' _ c => ?_)
    refine wpAny_bind (wpAny_rule (wpAny_pure ?_))
    have := hR s' _ c
    rw [List.drop_of_length_le (by omega)] at this
    exact this
  | succ k ih =>
    intro j s hk hj h hR
    have hlt : j < (passing pz n₀ 0).length := by omega
    refine codeAny_builtin F.entry_any_loop ?_
    rw [Around.under_plainId F.plain_any_loop _]
    show wpAny _ A.in1 (pyNext (.ref a) >>= _) _ _ s
    refine wpAny_bind (h.item hpn ap hgo hh hroom hlt fun v s' i hi rv _ h' => ?_)
    have rv : v = .bool (pb i) := rv
    subst rv
    have hd := drop_cons hi
    refine wpAny_bind (wpAny_holding (wpAny_truthy_bool ?_))
    refine wpAny_bind (wpAny_letGo ?_)
    cases hb : pb i with
    | false =>
      simp only [Bool.false_eq_true, if_false]
      refine wpAny_pure ⟨plainId_quiet F.plain_any_loop _, ih (j + 1) _ (by omega) hlt h' fun s'' i' hm' => ?_⟩
      have := hR s'' i' hm'
      rw [hd, List.any_cons, hb, Bool.false_or] at this
      exact this
    | true =>
      simp only [if_true]
      refine wpAny_bind (wpAny_rule (wpAny_pure ?_))
      obtain ⟨i', c⟩ := h'.cur
      have := hR _ i' c
      rw [hd, List.any_cons, hb, Bool.true_or] at this
      exact this
theorem all_loopG (hpn : Xg.pn = []) (ap : SApart Xg S a fp) (hgo : ∀ h : Heap, h.get? a = some go → h.IsGen a g) (hh : A.in1.handled = none) (hroom : A.in1.depth < recursionLimit) :
    ∀ (k j : Nat) (s : Shared), (passing pz n₀ 0).length - j = k → j ≤ (passing pz n₀ 0).length → GAt Xg A.in1 S a go fp tn Gd σ n₀ g pz (fun i => .bl (pb i)) j s →
    (∀ s' i, GEd Xg S a go Gd σ i s' → R (.ok (.ret (.bool (((passing pz n₀ 0).drop j).all pb)))) s') → codeAny (model Xg.prog Xg.w) A (.builtin "all.loop" ⟨[.ref a], []⟩) R s := by
  intro k
  induction k with
  | zero =>
    intro j s hk hj h hR
    have hjn : j = (passing pz n₀ 0).length := by omega
    refine codeAny_builtin F.entry_all_loop ?_
    rw [Around.under_plainId F.plain_all_loop _]
    show wpAny _ A.in1 (pyNext (.ref a) >>= _) _ _ s
    refine wpAny_bind (h.done hpn ap hgo hh hroom hjn fun s' _ c => ?_)
    refine wpAny_bind (wpAny_rule (wpAny_pure ?_))
    have := hR s' _ c
    rw [List.drop_of_length_le (by omega)] at this
    exact this
  | succ k ih =>
    intro j s hk hj h hR
    have hlt : j < (passing pz n₀ 0).length := by omega
    refine codeAny_builtin F.entry_all_loop ?_
    rw [Around.under_plainId F.plain_all_loop _]
    show wpAny _ A.in1 (pyNext (.ref a) >>= _) _ _ s
    refine wpAny_bind (h.item hpn ap hgo hh hroom hlt fun v s' i hi rv _ h' => ?_)
    have rv : v = .bool (pb i) := rv
    subst rv
    have hd := drop_cons hi
    refine wpAny_bind (wpAny_holding (wpAny_truthy_bool ?_))
    refine wpAny_bind (wpAny_letGo ?_)
    cases hb : pb i with
    | true =>
      simp only [if_true]
      refine wpAny_pure ⟨plainId_quiet F.plain_all_loop _, ih (j + 1) _ (by omega) hlt h' fun s'' i' hm' => ?_⟩
      have := hR s'' i' hm'
      rw [hd, List.all_cons, hb, Bool.true_and] at this
      exact this
    | false =>
      simp only [Bool.false_eq_true, if_false]
      refine wpAny_bind (wpAny_rule (wpAny_pure ?_))
      obtain ⟨i', c⟩ := h'.cur
      have := hR _ i' c
      rw [hd, List.all_cons, hb, Bool.false_and] at this
      exact this
variable {val : Nat → Int} {SA : Addr}
end
end GxI
set_option Elab.async false
set_option linter.all false
set_option maxRecDepth 100000
set_option maxHeartbeats 2000000
namespace GxI
open PySem PySem.Spec PyProof.Rows L2
theorem nb1 {s4 s5 b : Nat} (e : s5 = s4 + 1 + 1) (h : s5 ≤ b) : s4 ≤ b := by omega
theorem nb1' {s4 s5 b : Nat} (e : s5 = s4 + 1 + 1) (h : s5 ≤ b) : s4 < b := by omega
theorem nb3 {s4 s5 b c : Nat} (e : s5 = s4 + 1 + 1) (h : s5 ≤ b) (hc : c < s4) : c ≠ b := by omega
theorem nb4 {s4 s5 b h' : Nat} (e : s5 = s4 + 1 + 1) (h : s5 ≤ b) (hc : h' = s4 + 1) : b ≠ h' := by omega
theorem nb5 {s4 h' : Nat} (hc : h' = s4 + 1) : ¬ h' < s4 := by omega
theorem nb6 {s4 h' : Nat} (hc : h' = s4 + 1) : s4 < h' := by omega
/-- a generator that has not begun -/
def MadeG (Xg : Cx) (A0 : Around) (a : Addr) (go : Obj) (fp : List Addr) (tn : Nat → Heap → Prop) (Gd : Nat → Hp → Prop) (σ : L2.St) (n₀ g : Nat) (pz : Nat → Bool) (yv : Nat → V) (s5 : Shared) : Prop :=
  ∀ (S : List Addr) (pl : List (Addr × Obj)) (s6 : Shared), pl.map (·.1) = S → s6.gens = s5.gens → s6.os = s5.os → (∀ b o, s5.heap.get? b = some o → s6.heap.get? b = some o) →
    (∀ p ∈ pl, s5.heap.objs.size ≤ p.1 ∧ s6.heap.get? p.1 = some p.2 ∧ ∀ v, p.2.data ≠ .cell v) → SApart Xg S a fp ∧ GAt Xg A0 S a go fp tn Gd σ n₀ g pz yv 0 s6
theorem seg_gstart {Xg : Cx} {A : Around} {elt tg iter : Expr} {ifs : List Expr} {scope : Scope} {pos : Pos} {it a : Addr} {fp : List Addr} {tn : Nat → Heap → Prop} {J : It} {go : Obj} {S : List Addr} {g : Nat} {gt : TG} {tt : TT} {te : TE} {vs : List Nat} {σw : L2.St} {n₀ : Nat} {pz : Nat → Bool} {yv : Nat → V} {Gd : Nat → Hp → Prop}
    (hA : Xg.A = A.over (.compLoop (.GeneratorExp elt [⟨tg, iter, ifs, 0⟩] scope pos) 0 (.ref it) .none Xg.env) []) (hc : Xg.calm = true) (hco : Xg.env.scope.isCoroutine = false) (hpn : Xg.pn = []) (hex : Xg.ex = fp) (hxe : Xg.xe = fun _ _ => False)
    (T : Turn Xg.prog Xg.w Xg.K tg J fp it tn) (ap : SApart Xg S a fp) (haf : a ∉ fp) (hSf : ∀ b ∈ S, b ∉ fp) (pg : PG Xg tg gt) (pt : PTs Xg ifs tt) (pe : PE Xg elt te) (TO : TurnsOk J gt tt te vs σw n₀ pz yv Gd)
    (s : Shared) (hgs : g < s.gens.size) (hst : GSt Xg S a go fp tn Gd σw 0 s) :
    Seg (model Xg.prog Xg.w) A (fun n s₀ r s₁ => r = .ok .next ∧ gR Xg S a go Gd σw n₀ g n s₀ s₁) (gY Xg S a go fp tn Gd σw n₀ g pz yv) (passing pz n₀ 0).length s
      (.compStart (.GeneratorExp elt [⟨tg, iter, ifs, 0⟩] scope pos) 0 (.ref it) .none Xg.env)
      ((model Xg.prog Xg.w).den (.compStart (.GeneratorExp elt [⟨tg, iter, ifs, 0⟩] scope pos) 0 (.ref it) .none Xg.env)) [] s := by
  have loop := seg_gl (g := g) (pos := pos) (scope := scope) hA hc hco hpn hex hxe T ap haf hSf pg pt pe TO n₀ 0 s s (Nat.sub_zero _) (Nat.zero_le _) hgs (fun _ _ _ e => e) hst
  obtain ⟨H, pl, epl, I, st, nf, gd⟩ := hst
  show Seg _ A _ _ _ s _ ((compStart (.GeneratorExp elt [⟨tg, iter, ifs, 0⟩] scope pos) 0 (.ref it) .none Xg.env).onRaise (leaving Xg.env)) [] s
  unfold compStart
  rw [Sem.onRaise_eq_wrap]
  show Seg _ A _ _ _ s _ ((ask >>= _).wrap _ _ _ _) [] s
  refine seg_bind_wrap (wpAny_askSetting ?_)
  split
  · exact seg_again rfl loop
  · first
      | exact seg_bind_wrap (wpAny_rule (seg_bind_wrap (wpAny_standAt (seg_bind_wrap (T.self _ 0 s _ _ st (seg_again rfl loop))))))
      | (refine seg_bind_wrap (wpAny_rule ?_); show Seg _ A _ _ _ s _ ((standAt iter.pos >>= _).wrap _ _ _ _) [] s; exact seg_bind_wrap (wpAny_standAt (seg_bind_wrap (T.self _ 0 s _ _ st (seg_again rfl loop)))))
abbrev ArdG (A : Around) (elt tg iter : Expr) (ifs : List Expr) (scope : Scope) (pos : Pos) (it : Addr) (cenv : Env) : Around := A.in1.in1.over (.compLoop (.GeneratorExp elt [⟨tg, iter, ifs, 0⟩] scope pos) 0 (.ref it) .none cenv) []
theorem ardG_room {k : Nat} {A : Around} {elt tg iter : Expr} {ifs : List Expr} {scope : Scope} {pos : Pos} {it : Addr} {cenv : Env} (hr : Room (k + 1) A) : Room k (ArdG A elt tg iter ifs scope pos it cenv) := by
  obtain ⟨h1, h2, h3⟩ := hr
  refine ⟨h1, ?_, ?_⟩
  · show A.depth + 0 + 1 + 3 * k + 5 < recursionLimit
    omega
  · show A.units + 1 + 1 + 0 + 3 + 16 * k + 200 < cLine
    omega
theorem ardG_frames {A : Around} {elt tg iter : Expr} {ifs : List Expr} {scope : Scope} {pos : Pos} {it : Addr} {cenv : Env} {l : List Env} (h : A.frames = some l) : (ArdG A elt tg iter ifs scope pos it cenv).frames = some (cenv :: l) := by
  show pushEnvs [cenv] (pushEnvs [] A.frames) = _
  rw [h]
  rfl
/-- what is known behind the making of a generator -/
structure ReadyG (X : Cx) (pins : List (Addr × Obj)) (σ : L2.St) (vs : List Nat) (Xg : Cx) (a : Addr) (go : Obj) (fp : List Addr) (tn : Nat → Heap → Prop) (Gd : Nat → Hp → Prop) (n g : Nat) (pz : Nat → Bool) (yv : Nat → V) (s5 : Shared) : Prop where
  made : MadeG Xg X.A.in1 a go fp tn Gd (wipe σ vs) n g pz yv s5
  pn : Xg.pn = []
  isgen : ∀ h : Heap, h.get? a = some go → h.IsGen a g
  here : s5.heap.get? a = some go
  prog : Xg.prog = X.prog
  w : Xg.w = X.w
  back : ∀ S s' i, GEd Xg S a go Gd (wipe σ vs) i s' → ∃ H', Inv X pins σ H' s' ∧ Gd i H'
section
variable {X : Cx} {pins : List (Addr × Obj)} {σ : L2.St} {H : Hp} {s : Shared}
/-- the running code object at c, its table at P; Gc: what is to be known -/
structure TabX (X : Cx) (c P : Addr) (Gc : Hp → Prop) : Prop where
  code : ∀ {pins : List (Addr × Obj)} {σ : L2.St} {H : Hp} {s : Shared}, Inv X pins σ H s → Gc H → PySem.W.CodeHd s.heap c P
  bm : ∃ P0, X.base.BuiltinsAt X.mg P0
theorem TabX.of {X : Cx} {c P : Addr} {Gc : Hp → Prop} (TB : GxR.TabB X.base X.mg c P) : TabX X c P Gc := ⟨fun I _ => TB.code.keeps fun b u e => I.bk b u e, P, TB.bm⟩
/-- the reading of a generator expression -/
def tGx (Gc : Hp → Prop) (wi : TI) (g : TG) (tt : TT) (te : TE) (vs : List Nat) (P : Addr) (R : Nat → (Nat → Bool) → (Nat → V) → (Nat → Hp → Prop) → Prop) : L2.St → Hp → Prop := fun σ H =>
  wi σ H fun J H1 => Gc H1 ∧ GxR.TabG H1 P ∧ ∀ H2, GxR.Tabbed P H1 H2 → ∃ n pz yv Gd, Gd 0 H2 ∧ TurnsOk J g tt te vs (wipe σ vs) n pz yv Gd ∧ R n pz yv Gd
theorem gx_eval {Gc : Hp → Prop} {k : Nat} {c P : Addr} {elt tg iter : Expr} {ifs : List Expr} {scope : Scope} {own : List (Str × Nat)} {gpos : Pos} {wi : TI} {g : TG} {tt : TT} {te : TE} {R : Nat → (Nat → Bool) → (Nat → V) → (Nat → Hp → Prop) → Prop} {Q' : Value → Shared → Prop}
    (hr : Room (k + 1) X.A) (hc : X.calm = true) (hN : X.N.Nodup) (TB : TabX X c P Gc) (hcode : X.env.code = .ref c) (gs : GxS X.env scope) (ok : BlkOk X.N X.env.scope scope own)
    (hi : PI X tg iter wi)
    (hg : ∀ (A : Around) (s : Shared) (H : Hp) (C : Addr) (cd : Value) (cl : List (Str × Addr)) (fp : List Addr), Room k A → PG (gcx X A s H (genEnv scope cl C cd builtinsNs X.env) fp) tg g)
    (ht : ∀ (A : Around) (s : Shared) (H : Hp) (C : Addr) (cd : Value) (cl : List (Str × Addr)) (fp : List Addr), Room k A → PTs (gcx X A s H (genEnv scope cl C cd builtinsNs X.env) fp) ifs tt)
    (he : ∀ (A : Around) (s : Shared) (H : Hp) (C : Addr) (cd : Value) (cl : List (Str × Addr)) (fp : List Addr), Room k A → PE (gcx X A s H (genEnv scope cl C cd builtinsNs X.env) fp) elt te)
    (hs : ∀ v, genFold iter X.env v = pure v) (I : Inv X pins σ H s) (h : tGx Gc wi g tt te (own.map (·.2)) P R σ H)
    (hQ : ∀ n pz yv Gd Xg a go fp tn g s5, R n pz yv Gd → ReadyG X pins σ (own.map (·.2)) Xg a go fp tn Gd n g pz yv s5 → Q' (.ref a) s5) :
    wpAny (model X.prog X.w) X.A (eval (.GeneratorExp elt [⟨tg, iter, ifs, 0⟩] scope gpos) X.env) Q' X.xe s := by
  have hfree : ∀ y ∈ scope.names, y.2 = .free → ∃ c, X.env.cells.lookup y.1 = some c := fun y hy e => by
    rcases ok.free y hy e with k | k
    · exact I.ok.has _ (.inl k)
    · exact I.ok.has _ (.inr k)
  refine wpAny_GeneratorExp_make gs.co (closure_ok hfree) gs.nocell gs.dot ok.kind (by have := hr.dp; omega) ?_ hs
  refine thn (hi.run pins s σ H _ I h) fun xv s1 hx => thn hx fun itv s2 h2 => ?_
  obtain ⟨it, fp, tn, J, H1, e, I1, T, st2, f2, gc, ⟨ps, hP, ht0⟩, q1⟩ := h2
  subst e
  refine ⟨I1.nolimit, ?_⟩
  have hPs : s2.heap.get? P = some { cls := .none, data := .fields ps } := I1.hok P _ hP
  have cd : PySem.W.CodeHd s2.heap c P := TB.code I1 gc
  have gP : mainGlobals ≠ P := fun z => by
    obtain ⟨o, es, ep, ho, hd, _, _⟩ := I1.mod.glob.keeps I1.bk
    rw [z, hPs] at ho
    cases ho
    cases hd
  have fpP : ∀ b ∈ fp, b ≠ P := fun b hb z => by
    have := (f2 b hb).1
    rw [z, hP] at this
    cases this
  have cont : ∀ (code : Value) (h3 : Heap) (tk : Nat) (ps' : Array Value), Heap.ExtBut P s2.heap h3 → s2.heap.objs.size ≤ h3.objs.size → h3.get? P = some { cls := .none, data := .fields ps' } → (∃ more, ps' = ps ++ more) → TriplesOk ps'.toList →
      wpAny (model X.prog X.w) X.A (builtinsFor X.env.globals X.env.builtins) (fun bi s₄ =>
        ∀ h', h'.Ns s₄.heap.objs.size (fun y => if y = ".0" then some (.ref it) else none) → Heap.SameBut s₄.heap.objs.size (s₄.heap.push { cls := .type "frame", data := .dict #[] }) h' →
          Q' (.ref h'.objs.size) { s₄ with
            gens := s₄.gens.push (.fresh (.compStart (.GeneratorExp elt [⟨tg, iter, ifs, 0⟩] scope gpos) 0 (.ref it) .none (genEnv scope (cloFrom X.env.cells scope.names []) s₄.heap.objs.size code bi X.env))),
            toks := s₄.toks + 1 + 1 + 1,
            heap := h'.push { cls := .type "generator", data := .fields #[.int s₄.gens.size 0, .str "<genexpr>" (s₄.toks + 1), .str (X.env.qual ++ "<genexpr>") (s₄.toks + 1 + 1)] } }) X.xe { s2 with heap := h3, toks := tk } := by
    intro code h3 tk ps' hx hsz hP3 hmore ht3
    obtain ⟨P0, bm, ob, e1, e2, e3, _, e5, e6, e7, e8⟩ := TB.bm
    have e4 : bm ≠ P := fun z => by
      have h1 := I1.bk _ _ e5
      rw [z, hPs] at h1
      cases h1
      cases e8
    have keep3 : ∀ b u, b ≠ P → s2.heap.get? b = some u → h3.get? b = some u := fun b u hb e => hx b u hb e
    refine wpAny_builtinsFor (m := X.mg) (by rw [I1.ok.glob]; exact (I1.mod.glob.keeps I1.bk).extBut hx gP) e1 e2 (keep3 _ _ e4 (I1.bk _ _ e5)) e6 e7 e8 ?_
    obtain ⟨more, em⟩ := hmore
    -- the table has grown
    have I4 := GxR.inv_tab (more := more) (h' := h3) (g' := s2.gens) (d' := s2.drawn) (t' := tk) I1 hP keep3 (by rw [← em]; exact hP3) I1.bare
    generalize hs4 : ({ s2 with heap := h3, gens := s2.gens, drawn := s2.drawn, toks := tk } : Shared) = s4 at I4
    have eh4 : s4.heap = h3 := by rw [← hs4]
    intro h' hn' hs'
    have tab : GxR.Tabbed P H1 (upd H1 P (.tbl (ps ++ more))) := ⟨⟨ps ++ more, upd_same, by rw [← em]; exact ht3⟩, fun b hb => upd_ne hb⟩
    obtain ⟨n, pz, yv, Gd, gd0, TO, hR⟩ := q1 _ tab
    generalize hH2 : upd H1 P (.tbl (ps ++ more)) = H2 at I4 gd0 tab
    have st4 : tn 0 s4.heap := T.keep _ _ _ st2 fun b hb o e => by rw [eh4]; exact keep3 b o (fpP b hb) e
    have f4 : ∀ b ∈ fp, FpOk X pins H2 b ∧ b < s4.heap.objs.size := fun b hb => by
      obtain ⟨o, e, _⟩ := T.obj _ _ st4 b hb
      refine ⟨⟨?_, (f2 b hb).2⟩, Heap.lt_size e⟩
      rw [tab.2 b (fpP b hb)]
      exact (f2 b hb).1
    have hsz5 : h'.objs.size = s4.heap.objs.size + 1 := by rw [hs'.1, Heap.size_push]
    have keep' : ∀ b o, s4.heap.get? b = some o → h'.get? b = some o := fun b o e => hs'.extBut b o (Nat.ne_of_lt (Heap.lt_size e)) (Heap.get?_push_of_some _ e)
    generalize hgo : ({ cls := .type "generator", data := .fields #[.int s4.gens.size 0, .str "<genexpr>" (s4.toks + 1), .str (X.env.qual ++ "<genexpr>") (s4.toks + 1 + 1)] } : Obj) = go
    have keep5 : ∀ b o, s4.heap.get? b = some o → (h'.push go).get? b = some o := fun b o e => Heap.get?_push_of_some _ (keep' b o e)
    generalize hcenv : genEnv scope (cloFrom X.env.cells scope.names []) s4.heap.objs.size code builtinsNs X.env = cenv
    have hfr := I4.ok.frames
    have hAf : (ArdG X.A elt tg iter ifs scope gpos it cenv).frames = some (cenv :: X.stack) := ardG_frames hfr
    have hrg : Room k (ArdG X.A elt tg iter ifs scope gpos it cenv) := ardG_room hr
    have cL : cenv.locals = s4.heap.objs.size := by rw [← hcenv]; rfl
    have cC : cenv.cells = cloFrom X.env.cells scope.names [] := by rw [← hcenv]; rfl
    have cSc : cenv.scope = scope := by rw [← hcenv]; rfl
    have IG : Inv (gcx X (ArdG X.A elt tg iter ifs scope gpos it cenv) s4 H2 cenv fp) [] (wipe σ (own.map (·.2))) H2
        { s4 with heap := h'.push go, gens := s4.gens.push (.fresh (.compStart (.GeneratorExp elt [⟨tg, iter, ifs, 0⟩] scope gpos) 0 (.ref it) .none cenv)), toks := s4.toks + 1 + 1 + 1 } := by
      have z := gen_start (A := ArdG X.A elt tg iter ifs scope gpos it cenv) (fp := fp) (code := code) (g' := s4.gens.push (.fresh (.compStart (.GeneratorExp elt [⟨tg, iter, ifs, 0⟩] scope gpos) 0 (.ref it) .none cenv))) (h' := h'.push go) (tk := s4.toks + 1 + 1 + 1) I4 ok gs hN f4 (I4.ok.hd hc) (by rw [hcenv]; exact hAf) (hn'.push _) keep5 (I4.bare.push rfl)
      rw [hcenv] at z
      exact z
    generalize hs5 : ({ s4 with heap := h'.push go, gens := s4.gens.push (.fresh (.compStart (.GeneratorExp elt [⟨tg, iter, ifs, 0⟩] scope gpos) 0 (.ref it) .none cenv)), toks := s4.toks + 1 + 1 + 1 } : Shared) = s5 at IG
    have e5h : s5.heap = h'.push go := by rw [← hs5]
    have e5g : s5.gens = s4.gens.push (.fresh (.compStart (.GeneratorExp elt [⟨tg, iter, ifs, 0⟩] scope gpos) 0 (.ref it) .none cenv)) := by rw [← hs5]
    have ha5 : s5.heap.get? h'.objs.size = some go := by rw [e5h]; exact Heap.get?_push_size _ (by rw [← hgo]; rfl)
    have sz5 : s5.heap.objs.size = s4.heap.objs.size + 1 + 1 := by rw [e5h, Heap.size_push, hsz5]
    have hcl : ∀ x cc, cenv.cells.lookup x = some cc → cc < s4.heap.objs.size := fun x cc e => by
      rw [cC] at e
      exact (clo_mem I4 ok e).2.1
    have goc : ∀ v, go.data ≠ .cell v := fun v z => by rw [← hgo] at z; cases z
    have afp : h'.objs.size ∉ fp := fun hm => by
      exact nb5 hsz5 (f4 _ hm).2
    have pg := hg (ArdG X.A elt tg iter ifs scope gpos it cenv) s4 H2 s4.heap.objs.size code (cloFrom X.env.cells scope.names []) fp hrg
    have pt := ht (ArdG X.A elt tg iter ifs scope gpos it cenv) s4 H2 s4.heap.objs.size code (cloFrom X.env.cells scope.names []) fp hrg
    have pe := he (ArdG X.A elt tg iter ifs scope gpos it cenv) s4 H2 s4.heap.objs.size code (cloFrom X.env.cells scope.names []) fp hrg
    rw [hcenv] at pg pt pe
    refine hQ n pz yv Gd (gcx X (ArdG X.A elt tg iter ifs scope gpos it cenv) s4 H2 cenv fp) h'.objs.size go fp tn s4.gens.size s5 hR ⟨?_, rfl, fun h e => ⟨go, _, _, e, by rw [← hgo], by rw [← hgo], by rw [← hgo]⟩, ha5, rfl, rfl, ?_⟩
    · -- ready
      intro S pl s6 epl eg6 eo6 k6 hp6
      have ap : SApart (gcx X (ArdG X.A elt tg iter ifs scope gpos it cenv) s4 H2 cenv fp) S h'.objs.size fp := by
        have big : ∀ b ∈ S, s5.heap.objs.size ≤ b := fun b hb => by
          rw [← epl] at hb
          obtain ⟨p, hp, e⟩ := List.mem_map.mp hb
          rw [← e]
          exact (hp6 p hp).1
        refine ⟨fun b hb => ?_, fun b hb z => ?_, fun b hb x cc e z => ?_, fun b hb z => ?_, fun b hb z => ?_⟩
        · exact nb1 sz5 (big b hb)
        · have z : b = cenv.locals := z
          rw [cL] at z
          have z2 := nb1' sz5 (big b hb)
          rw [z] at z2
          exact Nat.lt_irrefl _ z2
        · exact nb3 sz5 (big b hb) (hcl x cc e) z
        · exact nb4 sz5 (big b hb) hsz5 z
        · exact nb3 sz5 (big b hb) (f4 b z).2 rfl
      refine ⟨ap, ?_⟩
      have I6 : Inv (gcx X (ArdG X.A elt tg iter ifs scope gpos it cenv) s4 H2 cenv fp) [] (wipe σ (own.map (·.2))) H2 s6 := by
        have z := IG.kept (h' := s6.heap) (t' := s6.toks) k6
        obtain ⟨hh6, g6, d6, t6, o6⟩ := s6
        have eg6 : g6 = s5.gens := eg6
        have eo6 : o6 = s5.os := eo6
        subst eg6 eo6
        refine IG.call' (s' := ⟨hh6, s5.gens, d6, t6, s5.os⟩) (ch := []) rfl (Un.kept k6) (IG.hok.kept k6) IG.bare fun b hb => by cases hb
      have I7 : Inv (gcx X (ArdG X.A elt tg iter ifs scope gpos it cenv) s4 H2 cenv fp) ((h'.objs.size, go) :: pl) (wipe σ (own.map (·.2))) H2 s6 := by
        refine I6.pins_of fun p hp => ?_
        have big : s4.heap.objs.size < p.1 ∧ s6.heap.get? p.1 = some p.2 ∧ ∀ v, p.2.data ≠ .cell v := by
          rcases List.mem_cons.mp hp with e | hp
          · rw [e]
            exact ⟨nb6 hsz5, k6 _ _ ha5, goc⟩
          · obtain ⟨z1, z2, z3⟩ := hp6 p hp
            exact ⟨nb1' sz5 z1, z2, z3⟩
        obtain ⟨z1, z2, z3⟩ := big
        refine ⟨z2, I4.hok.fresh (Nat.le_of_lt z1), ?_, ?_, z3⟩
        · show p.1 ≠ cenv.locals
          rw [cL]
          exact fun z => Nat.lt_irrefl _ (by rw [z] at z1; exact z1)
        · intro hb
          obtain ⟨_, o, ho, _⟩ := Heap.FunFrames.mem I4.stack hb
          exact Nat.lt_irrefl _ (Nat.lt_trans z1 (Heap.lt_size ho))
      have hfree : ∀ b ∈ fp, H2 b = none := fun b hb => (f4 b hb).1.1
      have st6 : tn 0 s6.heap := T.keep _ _ _ st4 fun b hb o e => k6 b o (by rw [e5h]; exact keep5 b o e)
      have gst : GSt (gcx X (ArdG X.A elt tg iter ifs scope gpos it cenv) s4 H2 cenv fp) S h'.objs.size go fp tn Gd (wipe σ (own.map (·.2))) 0 s6 := ⟨H2, pl, epl, I7, st6, hfree, gd0⟩
      have gz : s4.gens.size < s6.gens.size := by rw [eg6, e5g, Array.size_push]; exact Nat.lt_succ_self _
      refine ⟨⟨0, gst.ed⟩, gz, .fresh (.compStart (.GeneratorExp elt [⟨tg, iter, ifs, 0⟩] scope gpos) 0 (.ref it) .none cenv), by rw [eg6, e5g]; exact Array.getElem?_push_size .., fun s'' k => ⟨rfl, ?_⟩⟩
      rw [Nat.sub_zero]
      exact seg_gstart (A := X.A.in1.in1) (Xg := gcx X (ArdG X.A elt tg iter ifs scope gpos it cenv) s4 H2 cenv fp) rfl hc (by show cenv.scope.isCoroutine = false; rw [cSc]; exact gs.co) rfl rfl rfl T ap afp (fun b hb => ap.fp b hb) pg pt pe TO s'' (Nat.lt_of_lt_of_le gz k.gsz) (gst.kp T rfl ap k)
    · -- back
      intro S s' i hed
      obtain ⟨H', pl, epl, I', gd⟩ := hed
      refine ⟨H', ?_, gd⟩
      refine I4.call' (ch := fp) ?_ I'.base I'.hok I'.bare fun b hb => ⟨(f4 b hb).1.2.2.2.1, (f4 b hb).1.2.1, (f4 b hb).1.2.2.2.2.1, (f4 b hb).1.2.2.2.2.2⟩
      exact I'.os
  cases hf : codeAmong gpos ps.toList with
  | none =>
    refine wpAny_genexprCodeX hcode (cd.code hPs ht0) (cd.tab hPs) hf fun c' h' tk hx hge hlt hco' _ htab' _ => ?_
    obtain ⟨o1, vs, f1, tf, fl, tg, inF, tx, tt, op, _, _, _, _, _, _, _, _, _, htr, _⟩ := hco'
    exact cont _ h' tk _ hx (Nat.le_trans hge (Nat.le_of_lt hlt)) htab'.2 ⟨_, rfl⟩ htr
  | some cv =>
    refine wpAny_genexprCode_hit hcode (cd.code hPs ht0) hf ?_
    exact cont cv s2.heap s2.toks ps (Heap.ExtBut.refl _ _) (Nat.le_refl _) hPs ⟨#[], by simp⟩ ht0
end
end GxI
set_option Elab.async false
set_option linter.all false
set_option maxRecDepth 100000
set_option maxHeartbeats 2000000
namespace GxI
open PySem PySem.Spec PyProof.Rows L2
section
variable {X : Cx} {pins : List (Addr × Obj)} {σ : L2.St} {H : Hp} {s : Shared}
def rAny (Q : VK) : Nat → (Nat → Bool) → (Nat → V) → (Nat → Hp → Prop) → Prop := fun n pz yv Gd => ∃ pb : Nat → Bool, yv = (fun i => .bl (pb i)) ∧ ∀ i H', Gd i H' → Q (.bl ((passing pz n 0).any pb)) H'
def rAll (Q : VK) : Nat → (Nat → Bool) → (Nat → V) → (Nat → Hp → Prop) → Prop := fun n pz yv Gd => ∃ pb : Nat → Bool, yv = (fun i => .bl (pb i)) ∧ ∀ i H', Gd i H' → Q (.bl ((passing pz n 0).all pb)) H'
theorem run_any {Xg : Cx} {a : Addr} {go : Obj} {fp : List Addr} {tn : Nat → Heap → Prop} {Gd : Nat → Hp → Prop} {n g : Nat} {pz : Nat → Bool} {yv : Nat → V} {vs : List Nat} {s5 : Shared} {Q : VK} {k : Nat}
    (hr : Room k X.A) (R : rAny Q n pz yv Gd) (Y : ReadyG X pins σ vs Xg a go fp tn Gd n g pz yv s5) : wpAny (model X.prog X.w) X.A (call (.builtin "any") [.ref a]) (EP X pins σ Q) X.xe s5 := by
  obtain ⟨pb, rfl, hQ⟩ := R
  obtain ⟨made, pn, isg, here, ep, ew, back⟩ := Y
  obtain ⟨ap, hat⟩ := made [] [] s5 rfl rfl rfl (fun _ _ e => e) (fun p hp => by cases hp)
  refine call_function_tree F.kind_any F.plain_any F.entry_any (F.args_any1 _) ?_
  unfold Builtin.«any»
  refine wpAny_bind (m := oneArg "any" _) (wpAny_pure ?_)
  refine wpAny_bind (wpAny_pyIter_gen (isg _ here) ?_)
  have hroom : X.A.in1.depth < recursionLimit := hr.depth
  have z := any_loopG (A := X.A) (R := fun r s' => match r with | .ok (.ret v) => EP X pins σ Q v s' | .ok _ => False | .error e => X.xe e s') pn ap isg hr.hd hroom _ 0 s5 rfl (Nat.zero_le _) hat fun s' i c => by
    obtain ⟨H', I', gd⟩ := back _ _ _ c
    rw [List.drop_zero]
    exact ⟨.bl _, H', I', rfl, hQ i H' gd⟩
  rw [ep, ew] at z
  exact wpAny_pure ⟨plainId_quiet F.plain_any_loop _, z⟩
theorem run_all {Xg : Cx} {a : Addr} {go : Obj} {fp : List Addr} {tn : Nat → Heap → Prop} {Gd : Nat → Hp → Prop} {n g : Nat} {pz : Nat → Bool} {yv : Nat → V} {vs : List Nat} {s5 : Shared} {Q : VK} {k : Nat}
    (hr : Room k X.A) (R : rAll Q n pz yv Gd) (Y : ReadyG X pins σ vs Xg a go fp tn Gd n g pz yv s5) : wpAny (model X.prog X.w) X.A (call (.builtin "all") [.ref a]) (EP X pins σ Q) X.xe s5 := by
  obtain ⟨pb, rfl, hQ⟩ := R
  obtain ⟨made, pn, isg, here, ep, ew, back⟩ := Y
  obtain ⟨ap, hat⟩ := made [] [] s5 rfl rfl rfl (fun _ _ e => e) (fun p hp => by cases hp)
  refine call_function_tree F.kind_all F.plain_all F.entry_all (F.args_all1 _) ?_
  unfold Builtin.«all»
  refine wpAny_bind (m := oneArg "all" _) (wpAny_pure ?_)
  refine wpAny_bind (wpAny_pyIter_gen (isg _ here) ?_)
  have hroom : X.A.in1.depth < recursionLimit := hr.depth
  have z := all_loopG (A := X.A) (R := fun r s' => match r with | .ok (.ret v) => EP X pins σ Q v s' | .ok _ => False | .error e => X.xe e s') pn ap isg hr.hd hroom _ 0 s5 rfl (Nat.zero_le _) hat fun s' i c => by
    obtain ⟨H', I', gd⟩ := back _ _ _ c
    rw [List.drop_zero]
    exact ⟨.bl _, H', I', rfl, hQ i H' gd⟩
  rw [ep, ew] at z
  exact wpAny_pure ⟨plainId_quiet F.plain_all_loop _, z⟩
/-- the three built-ins -/
structure GxB (X : Cx) (f : Str) (id : String) (r : VK → Nat → (Nat → Bool) → (Nat → V) → (Nat → Hp → Prop) → Prop) : Prop where
  boot : bootBuiltins f = some (.builtin id)
  run : ∀ {pins : List (Addr × Obj)} {σ : L2.St} {Xg : Cx} {a : Addr} {go : Obj} {fp : List Addr} {tn : Nat → Heap → Prop} {Gd : Nat → Hp → Prop} {n g : Nat} {pz : Nat → Bool} {yv : Nat → V} {vs : List Nat} {s5 : Shared} {Q : VK},
    r Q n pz yv Gd → ReadyG X pins σ vs Xg a go fp tn Gd n g pz yv s5 → wpAny (model X.prog X.w) X.A (call (.builtin id) [.ref a]) (EP X pins σ Q) X.xe s5
theorem gx_any {k : Nat} (hr : Room k X.A) : GxB X "any" "any" rAny := ⟨boot_any, fun R Y => run_any hr R Y⟩
theorem gx_all {k : Nat} (hr : Room k X.A) : GxB X "all" "all" rAll := ⟨by decide +kernel, fun R Y => run_all hr R Y⟩
def tGxC (Gc : Hp → Prop) (wi : TI) (g : TG) (tt : TT) (te : TE) (vs : List Nat) (P : Addr) (r : VK → Nat → (Nat → Bool) → (Nat → V) → (Nat → Hp → Prop) → Prop) : TE := fun σ H Q => tGx Gc wi g tt te vs P (r Q) σ H
/-- any(elt for tg in iter if ..), all, sum -/
theorem pe_gx {Gc : Hp → Prop} {k : Nat} {c P : Addr} {f : Str} {id : String} {r : VK → Nat → (Nat → Bool) → (Nat → V) → (Nat → Hp → Prop) → Prop} {elt tg iter : Expr} {ifs : List Expr} {scope : Scope} {own : List (Str × Nat)} {gpos p pos : Pos} {wi : TI} {g : TG} {tt : TT} {te : TE}
    (B : GxB X f id r) (hgl : Gl X f) (hm : X.mg f = none) (hr : Room (k + 1) X.A) (hc : X.calm = true) (hN : X.N.Nodup) (TB : TabX X c P Gc) (hcode : X.env.code = .ref c) (gs : GxS X.env scope) (ok : BlkOk X.N X.env.scope scope own)
    (hi : PI X tg iter wi)
    (hg : ∀ (A : Around) (s : Shared) (H : Hp) (C : Addr) (cd : Value) (cl : List (Str × Addr)) (fp : List Addr), Room k A → PG (gcx X A s H (genEnv scope cl C cd builtinsNs X.env) fp) tg g)
    (ht : ∀ (A : Around) (s : Shared) (H : Hp) (C : Addr) (cd : Value) (cl : List (Str × Addr)) (fp : List Addr), Room k A → PTs (gcx X A s H (genEnv scope cl C cd builtinsNs X.env) fp) ifs tt)
    (he : ∀ (A : Around) (s : Shared) (H : Hp) (C : Addr) (cd : Value) (cl : List (Str × Addr)) (fp : List Addr), Room k A → PE (gcx X A s H (genEnv scope cl C cd builtinsNs X.env) fp) elt te)
    (hs : ∀ v, genFold iter X.env v = pure v := by intro _; rfl) (hn : f ≠ "__name__" := by decide) (hd : (f == ("__debug__" : Str)) = false := by decide)
    (hst : starEach [.GeneratorExp elt [⟨tg, iter, ifs, 0⟩] scope gpos] X.env = (false, eval (.GeneratorExp elt [⟨tg, iter, ifs, 0⟩] scope gpos) X.env) :: starEach [] X.env := by rfl) :
    PE X (.Call (.Name f p) [.GeneratorExp elt [⟨tg, iter, ifs, 0⟩] scope gpos] [] pos) (tGxC Gc wi g tt te (own.map (·.2)) P r) := by
  refine ⟨fun pins s σ H Q I h => ?_⟩
  refine wpAny_Call_Name_kw (ld_blt I hgl hm B.boot ?_ hn hd)
  refine PyProof.Rows.callWith_builtin1 ?_ hst (by rfl)
  rw [hst]
  show wpAny _ _ (spliced ((false, eval (.GeneratorExp elt [⟨tg, iter, ifs, 0⟩] scope gpos) X.env) :: backTo pos (starEach [] X.env))) _ _ s
  refine Calls.spliced_cons (gx_eval (k := k) hr hc hN TB hcode gs ok hi hg ht he hs I h fun n pz yv Gd Xg a go fp tn g s5 R Y => ?_)
  refine Calls.spliced_nil ?_
  exact B.run R Y
end
end GxI
set_option Elab.async false
set_option linter.all false
set_option maxRecDepth 100000
set_option maxHeartbeats 2000000
namespace PL
open PySem PySem.Spec PyProof.Rows L2
mutual
def tf : NestedKey → Bool
  | .none => false
  | .num _ => true
  | .text _ => false
  | .tup ks => tfs ks
def tfs : List NestedKey → Bool
  | [] => true
  | k :: ks => tf k && tfs ks
end
mutual
theorem tf_hash (w w' : World) : ∀ k : NestedKey, tf k = true → k.hash w = k.hash w'
  | .none, _ => rfl
  | .num _, _ => rfl
  | .text _, h => by simp [tf] at h
  | .tup ks, h => by
    rw [NestedKey.hash, NestedKey.hash, tfs_hash w w' ks (by rw [tf] at h; exact h)]
theorem tfs_hash (w w' : World) : ∀ ks : List NestedKey, tfs ks = true → NestedKey.hashes w ks = NestedKey.hashes w' ks
  | [], _ => rfl
  | k :: ks, h => by
    rw [tfs, Bool.and_eq_true] at h
    rw [NestedKey.hashes, NestedKey.hashes, tf_hash w w' k h.1, tfs_hash w w' ks h.2]
end
abbrev NE := NestedKey × Addr × V
/-- one entry, as the machine has it -/
def NEr (p : NE) (q : NestedKey × Addr × Value) : Prop := p.1 = q.1 ∧ p.2.1 = q.2.1 ∧ RelV p.2.2 q.2.2
def NRaw (a : Addr) (vs : List NE) : Heap → Prop := fun h => vs.length ≤ sizeLine ∧ (a == sysModules) = false ∧ (∀ p ∈ vs, tf p.1 = true ∧ p.1.depth ≤ 8) ∧
  ∃ xs : List (NestedKey × Addr × Value), Paired NEr vs xs ∧ ∃ o es ep, h.get? a = some o ∧ o.ExactDict ∧ o.data = .dict es ep ∧ (∀ (P : Program) (w : World), es.toList = xs.map (entryOfKey (nestedKind P w))) ∧ (xs.map (·.1)).Nodup
def NO (a : Addr) (vs : List NE) : HO := .ext (NRaw a vs)
section
variable {P : Program} {w : World} {H : Hp} {h h' : Heap} {a : Addr} {vs : List NE}
theorem NRaw.stay (x : NRaw a vs h) (k : ∀ o, h.get? a = some o → h'.get? a = some o) : NRaw a vs h' := by
  obtain ⟨h1, h2, h3, xs, h4, o, es, ep, h5, h6⟩ := x
  exact ⟨h1, h2, h3, xs, h4, o, es, ep, k _ h5, h6⟩
theorem NRaw.ok (x : NRaw a vs h) : ObjOk P w H h a (NO a vs) := by
  have x' := x
  obtain ⟨h1, h2, h3, xs, h4, o, es, ep, h5, h6⟩ := x'
  exact ⟨x, ⟨o, h5⟩, fun h1 h2 y k => NRaw.stay y k⟩
mutual
inductive HK (H : Hp) : NestedKey → V → Prop
  | none : HK H .none .non
  | num (i : Int) : HK H (.num i) (.int i)
  | text (x : Str) : HK H (.text x) (.str x)
  | tup {b : Addr} {ks : List NestedKey} {xs : List V} : Rd H b (.tup xs) → HKs H ks xs → HK H (.tup ks) (.ref b)
inductive HKs (H : Hp) : List NestedKey → List V → Prop
  | nil : HKs H [] []
  | cons {k : NestedKey} {ks : List NestedKey} {x : V} {xs : List V} : HK H k x → HKs H ks xs → HKs H (k :: ks) (x :: xs)
end
mutual
theorem HK.is (ok : HOk P w H h) : ∀ {k : NestedKey} {x : V} {u : Value}, HK H k x → RelV x u → NestedIs h k u
  | _, _, _, .none, r => by obtain rfl := r; exact .none
  | _, _, _, .num i, r => by obtain ⟨t, rfl⟩ := r; exact .int i t
  | _, _, _, .text x, r => by obtain ⟨t, rfl⟩ := r; exact .text x t
  | _, _, _, .tup h1 h2, r => by
    obtain rfl := r
    obtain ⟨_, its, rv, o, e1, e2, n, e3⟩ := (show ObjOk P w H h _ (.tup _) from rd_of ok h1)
    exact .tup e1 e2 e3 (HKs.is ok h2 (by simpa using rv))
theorem HKs.is (ok : HOk P w H h) : ∀ {ks : List NestedKey} {xs : List V} {us : List Value}, HKs H ks xs → Vals xs us → NestedAll h ks us
  | _, _, _, .nil, .nil => .nil
  | _, _, _, .cons h1 h2, .cons r1 r2 => .cons (HK.is ok h1 r1) (HKs.is ok h2 r2)
end
/-- as it is made anew -/
theorem NRaw.of {xs : List (NestedKey × Addr × Value)} (z : vs.length ≤ sizeLine) (hs : (a == sysModules) = false) (ht : ∀ p ∈ vs, tf p.1 = true ∧ p.1.depth ≤ 8) (r : Paired NEr vs xs) (d : h.DictOfH (nestedKind P w) a xs) : NRaw a vs h := by
  obtain ⟨o, es, ep, h5, h6, h7, h8, h9, h10⟩ := d
  refine ⟨z, hs, ht, xs, r, o, es, ep, h5, h6, h7, fun P' w' => ?_, h10⟩
  rw [h8]
  refine List.map_congr_left fun x hx => ?_
  have all : ∀ {l : List NE} {m : List (NestedKey × Addr × Value)}, Paired NEr l m → ∀ x ∈ m, ∃ p ∈ l, NEr p x := by
    intro l m q
    induction q with
    | nil => intro x hx; cases hx
    | cons r _ ih =>
      intro x hx
      rcases List.mem_cons.mp hx with rfl | hx
      · exact ⟨_, List.mem_cons_self, r⟩
      · obtain ⟨p, hp, hr⟩ := ih x hx
        exact ⟨p, List.mem_cons_of_mem _ hp, hr⟩
  obtain ⟨p, hp, r1, _⟩ := all r x hx
  show (⟨x.1.hash w, _, _⟩ : DictEntry) = ⟨x.1.hash w', _, _⟩
  rw [tf_hash w w' x.1 (by rw [← r1]; exact (ht p hp).1)]
end
end PL
set_option Elab.async false
set_option linter.all false
set_option maxRecDepth 100000
set_option maxHeartbeats 2000000
namespace PL
open PySem PySem.Spec PyProof.Rows L2
open LamX (ExtN)
def rgF (r t d u : Addr) : List (Str × V) := [("rooms", .ref r), ("things", .ref t), ("deeds", .ref d), ("undone", .ref u)]
def ObF (K : PySem.W.Frag) (H : Hp) (v : V) : PyData → Prop
  | .int a => ∃ n : Addr, a = n ∧ v = .ref n
  | .bool _ => ∃ b dx C r t d u, v = .ref b ∧ PySem.W.nsIn K mainGlobals "Register" = some (some (.ref C)) ∧ H b = some (.ins C dx (rgF r t d u)) ∧ H t = some (.dT [])
  | _ => False
theorem ObF.imp {K : PySem.W.Frag} {H H' : Hp} {v : V} {d : PyData} (h : ObF K H v d) (e : ∀ b o, H b = some o → ((∃ C dx fs, o = .ins C dx fs) ∨ o = .dT []) → H' b = some o) : ObF K H' v d := by
  cases d with
  | int a => exact h
  | bool _ =>
    obtain ⟨b, dx, C, r, t, d, u, h1, h2, h3, h4⟩ := h
    exact ⟨b, dx, C, r, t, d, u, h1, h2, e _ _ h3 (.inl ⟨_, _, _, rfl⟩), e _ _ h4 (.inr rfl)⟩
  | _ => exact h
theorem ObF.ext {K : PySem.W.Frag} {H H' : Hp} {v : V} {d : PyData} (h : ObF K H v d) (e : ExtN H H') : ObF K H' v d :=
  h.imp fun b o hb z => e b o hb fun ps y => by
    rcases z with ⟨_, _, _, z⟩ | z <;> rw [z] at y <;> cases y
theorem ObF.ref {K : PySem.W.Frag} {H : Hp} {v : V} {d : PyData} (h : ObF K H v d) : ∃ a, v = .ref a := by
  cases d with
  | int a => obtain ⟨n, _, h⟩ := h; exact ⟨n, h⟩
  | bool _ => obtain ⟨b, dx, C, r, t, d, u, h1, _⟩ := h; exact ⟨b, h1⟩
  | _ => exact h.elim
end PL
set_option Elab.async false
set_option linter.all false
set_option maxRecDepth 100000
set_option maxHeartbeats 2000000
namespace PL
open PySem PySem.Spec PyProof.Rows L2
open LamX (ExtN)
/-- a list that is a register's own -/
def RLw (a : Addr) (xs : List V) : Heap → Prop := fun h => xs.length ≤ sizeLine ∧ ∃ (its : List Value) (n : Nat), Vals xs its ∧ h.get? a = some { cls := .type "list", data := .seq its.toArray n }
def RL (a : Addr) (xs : List V) : HO := .ext (RLw a xs)
/-- one entry of the dict: its key, the tuple that is its key, its value -/
abbrev TEn := List Int × Addr × V
def ik (k : List Int) : List Key := k.map .inl
def TEr (p : TEn) (q : List Int × Addr × Value) : Prop := p.1 = q.1 ∧ p.2.1 = q.2.1 ∧ RelV p.2.2 q.2.2
/-- a dict that is a register's own, its keys rows of numbers -/
def RTw (a : Addr) (xs : List TEn) : Heap → Prop := fun h => xs.length ≤ sizeLine ∧ (a == sysModules) = false ∧ ∃ ys : List (List Int × Addr × Value), Paired TEr xs ys ∧
  ∃ o es ep, h.get? a = some o ∧ o.ExactDict ∧ o.data = .dict es ep ∧ (∀ (P : Program) (w : World), es.toList = (ys.map fun q => (ik q.1, q.2)).map (entryOfKey (tupleKind (mixKind P w)))) ∧ (ys.map (·.1)).Nodup
def RT (a : Addr) (xs : List TEn) : HO := .ext (RTw a xs)
def dtOf (xs : List TEn) : List (List Key × V) := xs.map fun p => (ik p.1, p.2.2)
theorem ik_inj : ∀ (a b : List Int), ik a = ik b → a = b := fun a => by
  induction a with
  | nil =>
    intro b h
    cases b with
    | nil => rfl
    | cons y t => cases h
  | cons x r ih =>
    intro b h
    cases b with
    | nil => cases h
    | cons y t =>
      injection h with h1 h2
      injection h1 with h1
      rw [h1, ih t h2]
theorem entry_ik (P P' : Program) (w w' : World) (k : List Int) (a : Addr) (v : Value) : entryOfKey (tupleKind (mixKind P w)) (ik k, a, v) = entryOfKey (tupleKind (mixKind P' w')) (ik k, a, v) := by
  have : (ik k).map (mixKind P w).hash = (ik k).map (mixKind P' w').hash := by
    unfold ik
    rw [List.map_map, List.map_map]
    rfl
  show DictEntry.mk (tupleKeyHash (mixKind P w) (ik k)) _ _ = DictEntry.mk (tupleKeyHash (mixKind P' w') (ik k)) _ _
  unfold tupleKeyHash
  rw [this]
section
variable {P : Program} {w : World} {H : Hp} {h h' : Heap} {a : Addr} {xs : List V} {ts : List TEn}
theorem RLw.stay (x : RLw a xs h) (k : ∀ o, h.get? a = some o → h'.get? a = some o) : RLw a xs h' := by
  obtain ⟨h1, its, n, r, e⟩ := x
  exact ⟨h1, its, n, r, k _ e⟩
theorem rl_ok (x : ObjOk P w H h a (.lst xs)) : ObjOk P w H h a (RL a xs) := by
  obtain ⟨h1, its, n, r, e⟩ := x
  exact ⟨⟨h1, its, n, r, e⟩, ⟨_, e⟩, fun h1 h2 y k => RLw.stay y k⟩
theorem rl_lst {H' : Hp} (x : ObjOk P w H h a (RL a xs)) : ObjOk P w H' h a (.lst xs) := x.1
theorem RTw.stay (x : RTw a ts h) (k : ∀ o, h.get? a = some o → h'.get? a = some o) : RTw a ts h' := by
  obtain ⟨h1, h2, ys, r, o, es, ep, e, z⟩ := x
  exact ⟨h1, h2, ys, r, o, es, ep, k _ e, z⟩
theorem rt_ok (x : RTw a ts h) : ObjOk P w H h a (RT a ts) := by
  have x' := x
  obtain ⟨h1, h2, ys, r, o, es, ep, e, z⟩ := x'
  exact ⟨x, ⟨_, e⟩, fun h1 h2 y k => RTw.stay y k⟩
theorem ter_pair : ∀ {ts : List TEn} {ys : List (List Int × Addr × Value)}, Paired TEr ts ys → (∀ p ∈ ts, H p.2.1 = some (.tup (p.1.map V.int))) →
    Paired (fun (p : List Key × V) (q : List Key × Addr × Value) => p.1 = q.1 ∧ H q.2.1 = some (.tup (p.1.map kV)) ∧ RelV p.2 q.2.2) (dtOf ts) (ys.map fun q => (ik q.1, q.2))
  | _, _, .nil, _ => .nil
  | _, _, .cons (l₁ := t) (a := p) (b := q) ⟨h1, h2, h3⟩ r, k => by
    refine .cons ⟨congrArg ik h1, ?_, h3⟩ (ter_pair r fun p hp => k p (List.mem_cons_of_mem _ hp))
    have := k p List.mem_cons_self
    rw [h2] at this
    show H q.2.1 = some (.tup ((ik p.1).map kV))
    rw [this]
    unfold ik
    rw [List.map_map]
    rfl
/-- as a plain dict -/
theorem rt_dT (x : ObjOk P w H h a (RT a ts)) {H' : Hp} (k : ∀ p ∈ ts, H' p.2.1 = some (.tup (p.1.map V.int))) : ObjOk P w H' h a (.dT (dtOf ts)) := by
  obtain ⟨⟨h1, h2, ys, r, o, es, ep, e, z1, z2, z3, z4⟩, _⟩ := x
  refine ⟨by unfold dtOf; rw [List.length_map]; exact h1, h2, ys.map fun q => (ik q.1, q.2), ter_pair r k, o, es, ep, e, z1, z2, z3 P w, ?_⟩
  have : (ys.map fun q => (ik q.1, q.2)).map (·.1) = (ys.map (·.1)).map ik := by rw [List.map_map, List.map_map]; rfl
  rw [this]
  exact z4.map ik fun a b ne e => ne (ik_inj _ _ e)
theorem pair_ter : ∀ {kvs : List (List Int × V)} {zs : List (List Key × Addr × Value)}, Paired (fun (p : List Key × V) (q : List Key × Addr × Value) => p.1 = q.1 ∧ H q.2.1 = some (.tup (p.1.map kV)) ∧ RelV p.2 q.2.2) (kvs.map fun p => (ik p.1, p.2)) zs →
    ∃ (ts : List TEn) (ys : List (List Int × Addr × Value)), ts.map (fun p => (p.1, p.2.2)) = kvs ∧ (∀ p ∈ ts, H p.2.1 = some (.tup (p.1.map V.int))) ∧ Paired TEr ts ys ∧ zs = ys.map fun q => (ik q.1, q.2)
  | [], [], _ => ⟨[], [], rfl, (fun _ h => by cases h), .nil, rfl⟩
  | (k, v) :: r, (k', b, u) :: zs, .cons ⟨h1, h2, h3⟩ t => by
    obtain ⟨ts, ys, e1, e2, e3, e4⟩ := pair_ter t
    have h1 : ik k = k' := h1
    subst h1
    refine ⟨(k, b, v) :: ts, (k, b, u) :: ys, by rw [List.map_cons, e1], fun p hp => ?_, .cons ⟨rfl, rfl, h3⟩ e3, by rw [List.map_cons, e4]⟩
    rcases List.mem_cons.mp hp with rfl | hp
    · have h2 : H b = some (.tup ((ik k).map kV)) := h2
      rw [h2]
      unfold ik
      rw [List.map_map]
      rfl
    · exact e2 p hp
theorem nodup_un {α β : Type} {f : α → β} : ∀ {l : List α}, (l.map f).Nodup → l.Nodup
  | [], _ => List.nodup_nil
  | x :: r, h => by
    rw [List.map_cons, List.nodup_cons] at h
    exact List.nodup_cons.mpr ⟨fun z => h.1 (List.mem_map.mpr ⟨x, z, rfl⟩), nodup_un h.2⟩
/-- as a register's own -/
theorem dT_rt {kvs : List (List Int × V)} (x : ObjOk P w H h a (.dT (kvs.map fun p => (ik p.1, p.2)))) : ∃ ts : List TEn, ts.map (fun p => (p.1, p.2.2)) = kvs ∧ (∀ p ∈ ts, H p.2.1 = some (.tup (p.1.map V.int))) ∧ ∀ H' : Hp, ObjOk P w H' h a (RT a ts) := by
  obtain ⟨h1, h2, zs, r, o, es, ep, e, z1, z2, z3, z4⟩ := x
  obtain ⟨ts, ys, e1, e2, e3, rfl⟩ := pair_ter r
  refine ⟨ts, e1, e2, fun H' => rt_ok ⟨?_, h2, ys, e3, o, es, ep, e, z1, z2, fun P' w' => ?_, ?_⟩⟩
  · have := congrArg List.length e1
    rw [List.length_map] at this h1
    rw [this]; exact h1
  · rw [z3, List.map_map, List.map_map]
    exact List.map_congr_left fun q _ => entry_ik P P' w w' q.1 q.2.1 q.2.2
  · have : (ys.map fun q => (ik q.1, q.2)).map (·.1) = (ys.map (·.1)).map ik := by rw [List.map_map, List.map_map]; rfl
    rw [this] at z4
    exact nodup_un z4
end
end PL
set_option Elab.async false
set_option linter.all false
set_option maxRecDepth 100000
set_option maxHeartbeats 2000000
namespace PL
open PySem PySem.Spec PyProof.Rows L2
open LamX (ExtN Tabs TabS)
def keyD : Key → PyData
  | .inl i => .int i
  | .inr x => .str x
/-- a row that is no key -/
def NK (ds : List PyData) : Prop := ds = [] ∨ ∃ d ∈ ds, ∀ k : Key, d ≠ keyD k
/-- a tuple that is known to have no dict of its own -/
def Plt (H : Hp) (v : V) : Prop := ∃ a ob xs, v = .ref a ∧ H a = some (.frz ob (.tup xs)) ∧ ob.dict = none
mutual
inductive Da (K : PySem.W.Frag) (H : Hp) : V → PyData → Prop
  | non : Da K H .non .none
  | bl (b : Bool) : Da K H (.bl b) (.bool b)
  | int (i : Int) : Da K H (.int i) (.int i)
  | str (x : Str) : Da K H (.str x) (.str x)
  | lst {a : Addr} {xs : List V} {ds : List PyData} : H a = some (.lst xs) → DaAll K H xs ds → Da K H (.ref a) (.list ds)
  | tup {a : Addr} {xs : List V} {ds : List PyData} : H a = some (.tup xs) → DaAll K H xs ds → Da K H (.ref a) (.tuple ds)
  | ftup {a : Addr} {ob : Obj} {xs : List V} {ds : List PyData} : H a = some (.frz ob (.tup xs)) → ob.dict = none → NK ds → DaAll K H xs ds → Da K H (.ref a) (.tuple ds)
  | dk {a : Addr} {kvs : List (Key × V)} {ds : List PyData} : H a = some (.dK kvs) → DaAll K H (kvs.map (·.2)) ds → Da K H (.ref a) (.dict ((kvs.map fun p => keyD p.1).zip ds))
  | dt {a : Addr} {kvs : List (List Key × V)} {ds : List PyData} : H a = some (.dT kvs) → kvs ≠ [] → DaAll K H (kvs.map (·.2)) ds → Da K H (.ref a) (.dict ((kvs.map fun p => .tuple (p.1.map keyD)).zip ds))
  | dte {a : Addr} : H a = some (.dT []) → Da K H (.ref a) (.dict [(.none, .none)])
  | ob {v : V} {d : PyData} : ObF K H v d → Da K H v (.dict [(.bool true, d)])
  | pt {a : Addr} {ob : Obj} {xs : List V} {ds : List PyData} : H a = some (.frz ob (.tup xs)) → ob.dict = none → NK ds → DaAll K H xs ds → Da K H (.ref a) (.dict [(.bool false, .tuple ds)])
inductive DaAll (K : PySem.W.Frag) (H : Hp) : List V → List PyData → Prop
  | nil : DaAll K H [] []
  | cons {v : V} {vs : List V} {d : PyData} {ds : List PyData} : Da K H v d → DaAll K H vs ds → DaAll K H (v :: vs) (d :: ds)
end
section
variable {K : PySem.W.Frag} {H H' : Hp}
theorem Plt.ext {v : V} (h : Plt H v) (e : ExtN H H') : Plt H' v := by
  obtain ⟨a, ob, xs, h1, h2, h3⟩ := h
  exact ⟨a, ob, xs, h1, e _ _ h2 (fun ps z => by cases z), h3⟩
theorem rd_ext (e : ExtN H H') {a : Addr} {o : HO} (ho : ∀ ps, o ≠ .tbl ps) (h : Rd H a o) : Rd H' a o := by
  rcases h with h | ⟨ob, h⟩
  · exact .inl (e _ _ h ho)
  · exact .inr ⟨ob, e _ _ h fun ps z => by cases z⟩
theorem sqL_ext (e : ExtN H H') {a : Addr} {xs : List V} (h : SqL K H a xs) : SqL K H' a xs := by
  rcases h with h | h
  · exact .inl (rd_ext e (fun ps z => by cases z) h)
  · exact .inr h
theorem sqT_ext (e : ExtN H H') {a : Addr} {xs : List V} (h : SqT K H a xs) : SqT K H' a xs := by
  rcases h with h | h
  · exact .inl (rd_ext e (fun ps z => by cases z) h)
  · exact .inr h
mutual
theorem Da.ext (e : ExtN H H') : ∀ {v : V} {d : PyData}, Da K H v d → Da K H' v d
  | _, _, .non => .non
  | _, _, .bl b => .bl b
  | _, _, .int i => .int i
  | _, _, .str x => .str x
  | _, _, .lst h r => .lst (e _ _ h fun ps z => by cases z) (DaAll.ext e r)
  | _, _, .tup h r => .tup (e _ _ h fun ps z => by cases z) (DaAll.ext e r)
  | _, _, .ftup h q n r => .ftup (e _ _ h fun ps z => by cases z) q n (DaAll.ext e r)
  | _, _, .dk h r => .dk (e _ _ h fun ps z => by cases z) (DaAll.ext e r)
  | _, _, .dt h n r => .dt (e _ _ h fun ps z => by cases z) n (DaAll.ext e r)
  | _, _, .dte h => .dte (e _ _ h fun ps z => by cases z)
  | _, _, .ob h => .ob (h.ext e)
  | _, _, .pt h q n r => .pt (e _ _ h fun ps z => by cases z) q n (DaAll.ext e r)
theorem DaAll.ext (e : ExtN H H') : ∀ {vs : List V} {ds : List PyData}, DaAll K H vs ds → DaAll K H' vs ds
  | _, _, .nil => .nil
  | _, _, .cons h r => .cons (Da.ext e h) (DaAll.ext e r)
end
theorem DaAll.length : ∀ {vs : List V} {ds : List PyData}, DaAll K H vs ds → vs.length = ds.length
  | _, _, .nil => rfl
  | _, _, .cons _ r => congrArg (· + 1) (DaAll.length r)
theorem DaAll.get : ∀ {vs : List V} {ds : List PyData} {i : Nat} {v : V}, DaAll K H vs ds → vs[i]? = some v → ∃ d, ds[i]? = some d ∧ Da K H v d
  | _, _, _, _, .nil, e => by simp at e
  | _, _, 0, _, .cons h _, e => by simp at e; subst e; exact ⟨_, rfl, h⟩
  | _, _, i + 1, _, .cons _ r, e => by
    obtain ⟨d, h1, h2⟩ := DaAll.get (i := i) r (by simpa using e)
    exact ⟨d, by simpa using h1, h2⟩
theorem DaAll.getD : ∀ {vs : List V} {ds : List PyData} {i : Nat} {d : PyData}, DaAll K H vs ds → ds[i]? = some d → ∃ v, vs[i]? = some v ∧ Da K H v d
  | _, _, _, _, .nil, e => by simp at e
  | _, _, 0, _, .cons h _, e => by simp at e; subst e; exact ⟨_, rfl, h⟩
  | _, _, i + 1, _, .cons _ r, e => by
    obtain ⟨d, h1, h2⟩ := DaAll.getD (i := i) r (by simpa using e)
    exact ⟨d, by simpa using h1, h2⟩
theorem DaAll.append : ∀ {vs ws : List V} {ds es : List PyData}, DaAll K H vs ds → DaAll K H ws es → DaAll K H (vs ++ ws) (ds ++ es)
  | _, _, _, _, .nil, s => s
  | _, _, _, _, .cons h r, s => .cons h (DaAll.append r s)
theorem DaAll.take : ∀ {vs : List V} {ds : List PyData} (n : Nat), DaAll K H vs ds → DaAll K H (vs.take n) (ds.take n)
  | _, _, 0, _ => .nil
  | _, _, _ + 1, .nil => .nil
  | _, _, n + 1, .cons h r => .cons h (DaAll.take n r)
theorem DaAll.drop : ∀ {vs : List V} {ds : List PyData} (n : Nat), DaAll K H vs ds → DaAll K H (vs.drop n) (ds.drop n)
  | _, _, 0, r => r
  | _, _, _ + 1, .nil => .nil
  | _, _, n + 1, .cons _ r => DaAll.drop n r
theorem DaAll.set {v : V} {d : PyData} (h : Da K H v d) : ∀ {vs : List V} {ds : List PyData} (i : Nat), DaAll K H vs ds → DaAll K H (vs.set i v) (ds.set i d)
  | _, _, _, .nil => .nil
  | _, _, 0, .cons _ r => .cons h r
  | _, _, i + 1, .cons q r => .cons q (DaAll.set h i r)
theorem DaAll.reverse {vs : List V} {ds : List PyData} (h : DaAll K H vs ds) : DaAll K H vs.reverse ds.reverse := by
  induction vs generalizing ds with
  | nil => cases h; exact .nil
  | cons v r ih =>
    cases h with
    | cons h1 h2 =>
      rw [List.reverse_cons, List.reverse_cons]
      exact (ih h2).append (.cons h1 .nil)
theorem DaAll.ints : ∀ {vs : List V} (ns : List Int), DaAll K H vs (ns.map .int) → vs = ns.map V.int
  | _, [], .nil => rfl
  | _, n :: r, .cons h t => by
    cases h
    rw [DaAll.ints r t]
    rfl
theorem daAll_ints : ∀ (ns : List Int), DaAll K H (ns.map V.int) (ns.map .int)
  | [] => .nil
  | n :: r => .cons (.int n) (daAll_ints r)
mutual
theorem Da.dp : ∀ {v : V} {d : PyData}, Da K H v d → PyData.plain d = true → Dp K H v d
  | _, _, .non, _ => .non
  | _, _, .bl b, _ => .bl b
  | _, _, .int i, _ => .int i
  | _, _, .str x, _ => .str x
  | _, _, .lst h r, p => .lst (SqL.of h) (DaAll.dp r (by simpa [PyData.plain] using p))
  | _, _, .tup h r, p => .tup (SqT.of h) (DaAll.dp r (by simpa [PyData.plain] using p))
  | _, _, .ftup h _ _ r, p => .tup (.inl (.inr ⟨_, h⟩)) (DaAll.dp r (by simpa [PyData.plain] using p))
  | _, _, .dk _ _, p => by simp [PyData.plain] at p
  | _, _, .dt _ _ _, p => by simp [PyData.plain] at p
  | _, _, .dte _, p => by simp [PyData.plain] at p
  | _, _, .ob _, p => by simp [PyData.plain] at p
  | _, _, .pt _ _ _ _, p => by simp [PyData.plain] at p
theorem DaAll.dp : ∀ {vs : List V} {ds : List PyData}, DaAll K H vs ds → PyData.plainAll ds = true → DpAll K H vs ds
  | _, _, .nil, _ => .nil
  | _, _, .cons h r, p => by
    simp only [PyData.plainAll, Bool.and_eq_true] at p
    exact .cons (Da.dp h p.1) (DaAll.dp r p.2)
end
end
def hide (O : List Addr) (H : Hp) : Hp := fun b => if b ∈ O then none else H b
section
variable {O : List Addr} {H H' : Hp} {a b : Addr} {o : HO}
theorem hide_in (h : b ∈ O) : hide O H b = none := if_pos h
theorem hide_out (h : b ∉ O) : hide O H b = H b := if_neg h
theorem hide_some (h : hide O H b = some o) : b ∉ O ∧ H b = some o := by
  by_cases hb : b ∈ O
  · rw [hide_in hb] at h
    cases h
  · rw [hide_out hb] at h
    exact ⟨hb, h⟩
theorem hide_nil : hide [] H = H := by
  funext b
  exact if_neg (by simp)
/-- a new object of ours -/
theorem hide_new (h : H a = none) : hide (a :: O) (upd H a o) = hide O H := by
  funext b
  by_cases hb : b = a
  · subst hb
    rw [hide_in (List.mem_cons_self)]
    unfold hide
    split
    · rfl
    · exact h.symm
  · by_cases hO : b ∈ O
    · rw [hide_in hO, hide_in (List.mem_cons_of_mem _ hO)]
    · rw [hide_out hO, hide_out (fun z => (List.mem_cons.mp z).elim hb hO), upd_ne hb]
/-- an object of ours is written -/
theorem hide_upd (h : a ∈ O) : hide O (upd H a o) = hide O H := by
  funext b
  by_cases hO : b ∈ O
  · rw [hide_in hO, hide_in hO]
  · rw [hide_out hO, hide_out hO, upd_ne (fun z => hO (by rw [z]; exact h))]
theorem ext_hide (e : ∀ b o, b ∉ O → H b = some o → (∀ ps, o ≠ .tbl ps) → H' b = some o) : ExtN (hide O H) (hide O H') := fun b o h n => by
  obtain ⟨h1, h2⟩ := hide_some h
  rw [hide_out h1]
  exact e b o h1 h2 n
theorem ext_sub {O' : List Addr} (h : ∀ b ∈ O', b ∈ O) : ExtN (hide O H) (hide O' H) := fun b o e _ => by
  obtain ⟨h1, h2⟩ := hide_some e
  rw [hide_out (fun z => h1 (h b z))]
  exact h2
end
/-- where the tables of code objects stand: of generator expressions; of lambdas, with their names -/
structure Tb where
  tg : List Addr
  tl : List (Addr × Str)
  dc : List Addr := []
  /-- tables of generator expressions that hold others; code objects that are known, with their tables -/
  tn : List Addr := []
  cn : List (Addr × Addr) := []
  /-- objects that are known and stay: functions, code objects -/
  kn : List (Addr × HO) := []
def Tb.ap (T : Tb) : List Addr := T.tl.map (·.1) ++ T.tn
/-- a code object, its table at P -/
def CdRec (o : Obj) (c P : Addr) : Prop :=
  ∃ vs file tf flags tg inF text tt, o.cls = .type "code" ∧ o.data = .fields vs ∧ vs[11]? = some (.ref P) ∧ vs.getD 11 .none = .ref P ∧ vs.getD 18 .none = .str file tf ∧
    vs.getD 7 .none = .int flags tg ∧ vs.getD 9 .none = .bool inF ∧ vs.getD 10 .none = .int text tt ∧ c ≠ P
def CdAt (H : Hp) (c P : Addr) : Prop := ∃ oc, H c = some (.frz oc (.own c)) ∧ CdRec oc c P
/-- a table whose code objects are known, their own tables apart from ap -/
def TabN (ap : List Addr) (H : Hp) (P : Addr) : Prop := ∃ ps : Array Value, H P = some (.tbl ps) ∧ TriplesOk ps.toList ∧
  ∀ pos cv, codeAmong pos ps.toList = some cv → ∃ c P', cv = .ref c ∧ CdAt H c P' ∧ GxR.TabG H P' ∧ P' ∉ ap
structure TOk (T : Tb) (H : Hp) : Prop where
  g : ∀ P ∈ T.tg, GxR.TabG H P
  l : Tabs T.tl H
  n : ∀ P ∈ T.tn, TabN T.ap H P
  c : ∀ q ∈ T.cn, CdAt H q.1 q.2
  k : ∀ q ∈ T.kn, H q.1 = some q.2 ∧ ((∃ oc, q.2 = .frz oc (.own q.1)) ∨ ∃ s, q.2 = LamX.CodeO q.1 s)
theorem TOk.of {T : Tb} {H H' : Hp} (t : TOk T H) (e : ∀ b o, H b = some o → ((∃ ps, o = .tbl ps) ∨ (∃ oc, o = .frz oc (.own b)) ∨ ∃ q, o = LamX.CodeO b q) → H' b = some o) : TOk T H' := by
  have eg : ∀ {P}, GxR.TabG H P → GxR.TabG H' P := fun {P} ⟨ps, h1, h2⟩ => ⟨ps, e _ _ h1 (.inl ⟨_, rfl⟩), h2⟩
  have ec : ∀ {c P}, CdAt H c P → CdAt H' c P := fun {c P} ⟨oc, h1, h2⟩ => ⟨oc, e _ _ h1 (.inr (.inl ⟨_, rfl⟩)), h2⟩
  refine ⟨fun P hP => eg (t.g P hP), fun p hp => ?_, fun P hP => ?_, fun q hq => ec (t.c q hq), fun q hq => ⟨e _ _ (t.k q hq).1 (.inr (t.k q hq).2), (t.k q hq).2⟩⟩
  · obtain ⟨ps, h1, h2, h3⟩ := t.l p hp
    exact ⟨ps, e _ _ h1 (.inl ⟨_, rfl⟩), h2, fun pos cv hcv => by obtain ⟨c', e1, h4⟩ := h3 pos cv hcv; exact ⟨c', e1, e _ _ h4 (.inr (.inr ⟨_, rfl⟩))⟩⟩
  · obtain ⟨ps, h1, h2, h3⟩ := t.n P hP
    exact ⟨ps, e _ _ h1 (.inl ⟨_, rfl⟩), h2, fun pos cv hcv => by obtain ⟨c', P', e1, h4, h5, h6⟩ := h3 pos cv hcv; exact ⟨c', P', e1, ec h4, eg h5, h6⟩⟩
theorem TOk.keep {T : Tb} {H H' : Hp} (t : TOk T H) (e : ∀ b o, H b = some o → H' b = some o) : TOk T H' := t.of fun b o h _ => e b o h
/-- an object that is no table and no code object is written -/
theorem TOk.put {T : Tb} {H : Hp} {D : Addr} {o o' : HO} (t : TOk T H) (hD : H D = some o) (h1 : ∀ ps, o ≠ .tbl ps) (h2 : ∀ oc, o ≠ .frz oc (.own D)) (h3 : ∀ q, o ≠ LamX.CodeO D q) : TOk T (L2.upd H D o') :=
  t.of fun b u h z => by
    rw [upd_ne fun e => ?_]
    · exact h
    · subst e
      rw [hD] at h
      cases h
      rcases z with ⟨ps, z⟩ | ⟨oc, z⟩ | ⟨q, z⟩
      · exact h1 ps z
      · exact h2 oc z
      · exact h3 q z
/-- what is lent: a list, a dict -/
inductive LD where
  | l (ds : List PyData)
  | t (kvs : List (List Key × PyData))
def LdOk (K : PySem.W.Frag) (B : Hp) : LD → HO → Prop
  | .l ds, o => ∃ vs, o = .lst vs ∧ DaAll K B vs ds
  | .t kvs, o => ∃ vs, o = .dT vs ∧ vs.map (·.1) = kvs.map (·.1) ∧ DaAll K B (vs.map (·.2)) (kvs.map (·.2))
theorem LdOk.ext {K : PySem.W.Frag} {B B' : Hp} {l : LD} {o : HO} (h : LdOk K B l o) (e : ExtN B B') : LdOk K B' l o := by
  cases l with
  | l ds => obtain ⟨vs, h1, h2⟩ := h; exact ⟨vs, h1, h2.ext e⟩
  | t kvs => obtain ⟨vs, h1, h2, h3⟩ := h; exact ⟨vs, h1, h2, h3.ext e⟩
/-- a tuple that is told as plain; a deed: what stood before, what stands behind -/
def ptM (xs : List PyData) : PyData := .dict [(.bool false, .tuple xs)]
def deD (p : List PyData × List PyData) : PyData := .tuple [ptM p.1, ptM p.2]
/-- a register: its rooms, things, deeds, what was undone; where its parts stand -/
structure Reg where
  rooms : List Int
  things : List (List Int × PyData)
  deeds : List (List PyData × List PyData)
  undone : List (List PyData × List PyData)
structure RA where
  b : Addr
  t : Addr
  d : Addr
  u : Addr
structure RgAt (K : PySem.W.Frag) (B H : Hp) (A : RA) (R : Reg) : Prop where
  ins : ∃ C dx r, PySem.W.nsIn K mainGlobals "Register" = some (some (.ref C)) ∧ H A.b = some (.ins C dx (rgF r A.t A.d A.u)) ∧ B r = some (.tup (R.rooms.map V.int))
  thg : ∃ ts : List TEn, H A.t = some (RT A.t ts) ∧ ts.map (·.1) = R.things.map (·.1) ∧ (∀ p ∈ ts, B p.2.1 = some (.tup (p.1.map V.int))) ∧ DaAll K B (ts.map (·.2.2)) (R.things.map (·.2))
  dee : ∃ vs, H A.d = some (RL A.d vs) ∧ DaAll K B vs (R.deeds.map deD)
  und : ∃ vs, H A.u = some (RL A.u vs) ∧ DaAll K B vs (R.undone.map deD)
def RA.apart (A : RA) : Prop := A.d ≠ A.u ∧ A.t ≠ A.d ∧ A.t ≠ A.u
def RA.has (A : RA) (a : Addr) : Prop := a = A.b ∨ a = A.t ∨ a = A.d ∨ a = A.u
theorem RgAt.ext {K : PySem.W.Frag} {B B' H H' : Hp} {A : RA} {R : Reg} (h : RgAt K B H A R) (e : ExtN B B') (k : ∀ a, A.has a → H' a = H a) : RgAt K B' H' A R := by
  obtain ⟨⟨C, dx, r, h1, h2, h3⟩, ⟨ts, h4, h5, h6, h7⟩, ⟨vs, h8, h9⟩, ⟨us, h10, h11⟩⟩ := h
  exact ⟨⟨C, dx, r, h1, (k _ (.inl rfl)).trans h2, e _ _ h3 fun ps z => by cases z⟩, ⟨ts, (k _ (.inr (.inl rfl))).trans h4, h5, fun p hp => e _ _ (h6 p hp) (fun ps z => by cases z), h7.ext e⟩,
    ⟨vs, (k _ (.inr (.inr (.inl rfl)))).trans h8, h9.ext e⟩, ⟨us, (k _ (.inr (.inr (.inr rfl)))).trans h10, h11.ext e⟩⟩
/-- what no part of a register is -/
def Plain : HO → Prop
  | .ins _ _ _ => False
  | .ext _ => False
  | _ => True
theorem RgAt.ne {K : PySem.W.Frag} {B H : Hp} {A : RA} {R : Reg} (h : RgAt K B H A R) {a : Addr} {o : HO} (ha : H a = some o) (p : Plain o) : ∀ c, A.has c → c ≠ a := fun c hc z => by
  subst z
  obtain ⟨⟨C, dx, r, h1, h2, h3⟩, ⟨ts, h4, _⟩, ⟨vs, h8, h9⟩, ⟨us, h10, h11⟩⟩ := h
  rcases hc with rfl | rfl | rfl | rfl
  · rw [h2] at ha; cases ha; exact p
  · rw [h4] at ha; cases ha; exact p
  · rw [h8] at ha; cases ha; exact p
  · rw [h10] at ha; cases ha; exact p
/-- a register that is read only -/
def RrOk (K : PySem.W.Frag) (B : Hp) (R : Reg) (x : V) : Prop := ∃ A : RA, x = .ref A.b ∧ RgAt K B B A R
theorem RrOk.ext {K : PySem.W.Frag} {B B' : Hp} {R : Reg} {x : V} (h : RrOk K B R x) (e : ExtN B B') : RrOk K B' R x := by
  obtain ⟨A, h1, h2⟩ := h
  refine ⟨A, h1, h2.ext e fun a ha => ?_⟩
  obtain ⟨⟨C, dx, r, _, h2, h3⟩, ⟨ts, h4, _⟩, ⟨vs, h8, h9⟩, ⟨us, h10, h11⟩⟩ := h2
  rcases ha with rfl | rfl | rfl | rfl
  · rw [h2]; exact e _ _ h2 fun ps z => by cases z
  · rw [h4]; exact e _ _ h4 fun ps z => by cases z
  · rw [h8]; exact e _ _ h8 fun ps z => by cases z
  · rw [h10]; exact e _ _ h10 fun ps z => by cases z
inductive Sl where
  | un
  | sh (d : PyData)
  | ol (ds : List PyData)
  | ok (kvs : List (Key × PyData))
  | ot (kvs : List (List Key × PyData))
  | on (kvs : List (NestedKey × PyData))
  | sn (kvs : List (NestedKey × PyData))
  | sk (kvs : List (Key × PyData))
  | dice
  | scr (ns : List Int)
  | ln (a : Addr) (o : LD)
  | rr (R : Reg)
  | rg (A : RA) (R : Reg)
abbrev En := List Sl
def Sl.owned : Sl → Bool
  | .un => false
  | .sh _ => false
  | .dice => false
  | .scr _ => false
  | .sn _ => false
  | .sk _ => false
  | .rr _ => false
  | _ => true
/-- a dict with nested keys, given up -/
def SnOk (K : PySem.W.Frag) (B : Hp) (kvs : List (NestedKey × PyData)) (x : V) : Prop := ∃ a ob vs, x = .ref a ∧ B a = some (.frz ob (NO a vs)) ∧ vs.map (·.1) = kvs.map (·.1) ∧ DaAll K B ((vs.map fun p => .ref p.2.1) ++ vs.map (·.2.2)) ((kvs.map fun p => p.1.data) ++ kvs.map (·.2))
theorem SnOk.ext {K : PySem.W.Frag} {B B' : Hp} {kvs : List (NestedKey × PyData)} {x : V} (h : SnOk K B kvs x) (e : ExtN B B') : SnOk K B' kvs x := by
  obtain ⟨a, ob, vs, h1, h2, h3, h4⟩ := h
  exact ⟨a, ob, vs, h1, e _ _ h2 (fun ps z => by cases z), h3, h4.ext e⟩
/-- a dict of numbers or texts as keys, given up and locked -/
def SkOk (K : PySem.W.Frag) (B : Hp) (kvs : List (Key × PyData)) (x : V) : Prop := ∃ a ob vs, x = .ref a ∧ B a = some (.frz ob (.dK vs)) ∧ vs.map (·.1) = kvs.map (·.1) ∧ DaAll K B (vs.map (·.2)) (kvs.map (·.2))
theorem SkOk.ext {K : PySem.W.Frag} {B B' : Hp} {kvs : List (Key × PyData)} {x : V} (h : SkOk K B kvs x) (e : ExtN B B') : SkOk K B' kvs x := by
  obtain ⟨a, ob, vs, h1, h2, h3, h4⟩ := h
  exact ⟨a, ob, vs, h1, e _ _ h2 (fun ps z => by cases z), h3, h4.ext e⟩
def Own (D0 O : List Addr) (a : Addr) : Prop := a ∈ O ∧ a ∉ D0
/-- no part of the register in the slot -/
def Sl.away : Sl → Addr → Prop
  | .rg A _, a => ¬ A.has a
  | _, _ => True
/-- all parts of a register are ours -/
def RgOwn (D0 O : List Addr) (A : RA) : Prop := ∀ a, A.has a → Own D0 O a
def SlOk (K : PySem.W.Frag) (D0 O : List Addr) (H : Hp) : Sl → Option V → Prop
  | .un, _ => True
  | .sh d, v => ∃ x, v = some x ∧ Da K (hide O H) x d
  | .ol ds, v => ∃ a vs, v = some (.ref a) ∧ Own D0 O a ∧ H a = some (.lst vs) ∧ DaAll K (hide O H) vs ds
  | .ok kvs, v => ∃ a vs, v = some (.ref a) ∧ Own D0 O a ∧ H a = some (.dK vs) ∧ vs.map (·.1) = kvs.map (·.1) ∧ DaAll K (hide O H) (vs.map (·.2)) (kvs.map (·.2))
  | .ot kvs, v => ∃ a vs, v = some (.ref a) ∧ Own D0 O a ∧ H a = some (.dT vs) ∧ vs.map (·.1) = kvs.map (·.1) ∧ DaAll K (hide O H) (vs.map (·.2)) (kvs.map (·.2))
  | .on kvs, v => ∃ a vs, v = some (.ref a) ∧ Own D0 O a ∧ H a = some (NO a vs) ∧ vs.map (·.1) = kvs.map (·.1) ∧ DaAll K (hide O H) ((vs.map fun p => .ref p.2.1) ++ vs.map (·.2.2)) ((kvs.map fun p => p.1.data) ++ kvs.map (·.2))
  | .sn kvs, v => ∃ x, v = some x ∧ SnOk K (hide O H) kvs x
  | .sk kvs, v => ∃ x, v = some x ∧ SkOk K (hide O H) kvs x
  | .dice, v => ∃ a, v = some (.ref a) ∧ a ∈ D0
  | .scr ns, v => ∃ a, v = some (.ref a) ∧ SqL K (hide O H) a (ns.map V.int)
  | .ln a l, v => v = some (.ref a) ∧ Own D0 O a ∧ ∃ o, H a = some o ∧ LdOk K (hide O H) l o
  | .rr R, v => ∃ x, v = some x ∧ RrOk K (hide O H) R x
  | .rg A R, v => v = some (.ref A.b) ∧ RgOwn D0 O A ∧ A.apart ∧ RgAt K (hide O H) H A R
/-- no table, no tuple -/
structure NT (o : HO) : Prop where
  tb : ∀ ps, o ≠ .tbl ps
  tp : ∀ xs, o ≠ .tup xs
instance {o : HO} : CoeFun (NT o) (fun _ => ∀ ps, o ≠ .tbl ps) := ⟨NT.tb⟩
instance {o : HO} : Coe (NT o) (∀ ps, o ≠ .tbl ps) := ⟨NT.tb⟩
def HO.ntb : HO → Bool
  | .tbl _ => false
  | .tup _ => false
  | _ => true
theorem nt_of {o : HO} (h : HO.ntb o = true) : NT o := ⟨fun ps z => (by rw [z] at h; cases h), fun xs z => (by rw [z] at h; cases h)⟩
/-- Hb: what stood; O: what is ours alone; fl: ours, in flight -/
structure Gh where
  Hb : Hp
  O : List Addr
  fl : List (Addr × HO)
structure Rep (T : Tb) (K : PySem.W.Frag) (G : Gh) (ρ : En) (σ : L2.St) (H : Hp) : Prop where
  len : ρ.length = σ.length
  slot : ∀ (i : Nat) (s : Sl), ρ[i]? = some s → ∃ v, σ[i]? = some v ∧ SlOk K T.dc G.O H s v
  sep : ∀ (i j : Nat) (s t : Sl) (a : Addr), i ≠ j → ρ[i]? = some s → ρ[j]? = some t → s.owned = true → t.owned = true → σ[i]? = some (some (.ref a)) → σ[j]? = some (some (.ref a)) → False
  tab : TOk T H
  ext : ExtN G.Hb (hide G.O H)
  dom : ∀ a ∈ G.O, ∃ o, H a = some o ∧ NT o
  fly : ∀ p ∈ G.fl, p.1 ∈ G.O ∧ H p.1 = some p.2
  dcs : ∀ a ∈ T.dc, a ∈ G.O ∧ (∃ x y z, H a = some (.lst [.int x, .int y, .int z])) ∧ ∀ q ∈ G.fl, q.1 ≠ a
section
variable {T : Tb} {K : PySem.W.Frag} {G : Gh} {ρ : En} {σ : L2.St} {H H' : Hp}
theorem SlOk.ext {D0 O : List Addr} {s : Sl} {v : Option V} (h : SlOk K D0 O H s v) (e : ExtN (hide O H) (hide O H')) (ho : ∀ a ∈ O, a ∉ D0 → H' a = H a) : SlOk K D0 O H' s v := by
  cases s with
  | un => trivial
  | sh d => obtain ⟨x, h1, h2⟩ := h; exact ⟨x, h1, h2.ext e⟩
  | ol ds => obtain ⟨a, vs, h1, h2, h3, h4⟩ := h; exact ⟨a, vs, h1, h2, (ho a h2.1 h2.2).trans h3, h4.ext e⟩
  | ok ds => obtain ⟨a, vs, h1, h2, h3, h4, h5⟩ := h; exact ⟨a, vs, h1, h2, (ho a h2.1 h2.2).trans h3, h4, h5.ext e⟩
  | ot ds => obtain ⟨a, vs, h1, h2, h3, h4, h5⟩ := h; exact ⟨a, vs, h1, h2, (ho a h2.1 h2.2).trans h3, h4, h5.ext e⟩
  | ln a _ => obtain ⟨h1, h2, hob, h3, h5⟩ := h; exact ⟨h1, h2, hob, (ho a h2.1 h2.2).trans h3, h5.ext e⟩
  | on ds => obtain ⟨a, vs, h1, h2, h3, h4, h5⟩ := h; exact ⟨a, vs, h1, h2, (ho a h2.1 h2.2).trans h3, h4, h5.ext e⟩
  | sn d => obtain ⟨x, h1, h2⟩ := h; exact ⟨x, h1, h2.ext e⟩
  | sk d => obtain ⟨x, h1, h2⟩ := h; exact ⟨x, h1, h2.ext e⟩
  | rr d => obtain ⟨x, h1, h2⟩ := h; exact ⟨x, h1, h2.ext e⟩
  | rg A R => obtain ⟨h1, h2, h3, h4⟩ := h; exact ⟨h1, h2, h3, h4.ext e fun a ha => ho a (h2 a ha).1 (h2 a ha).2⟩
  | dice => exact h
  | scr ns => obtain ⟨a, h1, h2⟩ := h; exact ⟨a, h1, sqL_ext e h2⟩
theorem Rep.stepD (R : Rep T K G ρ σ H) (e : ExtN (hide G.O H) (hide G.O H')) (ho : ∀ a ∈ G.O, a ∉ T.dc → H' a = H a) (hd : ∀ a ∈ T.dc, ∃ x y z, H' a = some (.lst [.int x, .int y, .int z])) (t : TOk T H') : Rep T K G ρ σ H' where
  len := R.len
  slot i s h := by obtain ⟨v, h1, h2⟩ := R.slot i s h; exact ⟨v, h1, h2.ext e ho⟩
  sep := R.sep
  tab := t
  ext := R.ext.trans e
  dom a ha := by
    by_cases z : a ∈ T.dc
    · obtain ⟨x, y, z, h⟩ := hd a z; exact ⟨_, h, nt_of rfl⟩
    · rw [ho a ha z]; exact R.dom a ha
  fly p hp := by obtain ⟨h1, h2⟩ := R.fly p hp; exact ⟨h1, (ho _ h1 fun z => (R.dcs _ z).2.2 p hp rfl).trans h2⟩
  dcs a ha := ⟨(R.dcs a ha).1, hd a ha, (R.dcs a ha).2.2⟩
theorem Rep.step (R : Rep T K G ρ σ H) (e : ExtN (hide G.O H) (hide G.O H')) (ho : ∀ a ∈ G.O, H' a = H a) (t : TOk T H') : Rep T K G ρ σ H' :=
  R.stepD e (fun a ha _ => ho a ha) (fun a ha => by obtain ⟨h1, h2, _⟩ := R.dcs a ha; rw [ho a h1]; exact h2) t
/-- objects are laid -/
theorem Rep.alloc (R : Rep T K G ρ σ H) (e : ∀ b o, H b = some o → H' b = some o) : Rep T K G ρ σ H' :=
  R.step (ext_hide fun b o _ h _ => e b o h) (fun a ha => by obtain ⟨o, h, _⟩ := R.dom a ha; rw [h, e _ _ h]) (R.tab.keep e)
theorem Rep.rebase (R : Rep T K G ρ σ H) : Rep T K ⟨hide G.O H, G.O, G.fl⟩ ρ σ H := ⟨R.len, R.slot, R.sep, R.tab, ExtN.refl _, R.dom, R.fly, R.dcs⟩
theorem Rep.unbase {Hb : Hp} (R : Rep T K ⟨Hb, G.O, G.fl⟩ ρ σ H) (e : ExtN G.Hb Hb) : Rep T K G ρ σ H := ⟨R.len, R.slot, R.sep, R.tab, e.trans R.ext, R.dom, R.fly, R.dcs⟩
end
/-- an exception: its class, its field -/
structure Exn where
  cls : Addr
  fld : Option (Str × PyData)
def ExR (K : PySem.W.Frag) (x : Exn) (cls : Value) (dd : Option Addr) (H : Hp) : Prop := cls = .ref x.cls ∧ match x.fld with
  | none => dd = none
  | some (f, d) => ∃ a v, dd = some a ∧ H a = some (.xd [(f, v)]) ∧ Da K H v d
abbrev PW := En → (PyData → Prop) → (Exn → Prop) → Prop
abbrev PWB := En → (Bool → Prop) → (Exn → Prop) → Prop
abbrev PWs := En → (List PyData → Prop) → (Exn → Prop) → Prop
section
variable (T : Tb) (K : PySem.W.Frag) (W : WX)
/-- what an exception does -/
def exOut (G : Gh) (ρ : En) (σ : L2.St) : Exn → Prop := fun x => ∀ H' cls dd, Rep T K G ρ σ H' → ExR K x cls dd (hide G.O H') → W cls dd σ H'
def lift (w : PW) : TE := fun σ H Q => ∃ G ρ, Rep T K G ρ σ H ∧ w ρ (fun d => ∀ v H', Rep T K G ρ σ H' → Da K (hide G.O H') v d → Q v H') (exOut T K W G ρ σ)
def liftB (w : PWB) : TT := fun σ H Q => ∃ G ρ, Rep T K G ρ σ H ∧ w ρ (fun b => ∀ H', Rep T K G ρ σ H' → Q b H') (exOut T K W G ρ σ)
def liftA (w : PWs) : TA := fun σ H Q => ∃ G ρ, Rep T K G ρ σ H ∧ w ρ (fun ds => ∀ vs H', Rep T K G ρ σ H' → DaAll K (hide G.O H') vs ds → Q vs H') (exOut T K W G ρ σ)
/-- a new object, ours -/
def Apt (ρ : En) (σ : L2.St) (a : Addr) : Prop := ∀ (i : Nat) (s : Sl), ρ[i]? = some s → s.owned = true → σ[i]? ≠ some (some (.ref a)) ∧ s.away a
/-- a new list, ours -/
def liftF (w : PW) : TE := fun σ H Q => ∃ G ρ, Rep T K G ρ σ H ∧ w ρ (fun d => ∀ a vs ds H', d = .list ds → Rep T K ⟨G.Hb, a :: G.O, G.fl⟩ ρ σ H' → a ∉ G.O → Apt ρ σ a → H' a = some (.lst vs) → DaAll K (hide (a :: G.O) H') vs ds → Q (.ref a) H') (exOut T K W G ρ σ)
/-- a value, or a list or dict of ours that is read only -/
inductive Top (D0 O : List Addr) (H : Hp) : V → PyData → Prop
  | sh {v : V} {d : PyData} : Da K (hide O H) v d → Top D0 O H v d
  | ol {a : Addr} {vs : List V} {ds : List PyData} : a ∈ O → H a = some (.lst vs) → DaAll K (hide O H) vs ds → a ∉ D0 → Top D0 O H (.ref a) (.list ds)
  | ok {a : Addr} {vs : List (Key × V)} {ds : List PyData} : a ∈ O → H a = some (.dK vs) → DaAll K (hide O H) (vs.map (·.2)) ds → a ∉ D0 → Top D0 O H (.ref a) (.dict ((vs.map fun p => keyD p.1).zip ds))
  | ot {a : Addr} {vs : List (List Key × V)} {ds : List PyData} : a ∈ O → H a = some (.dT vs) → DaAll K (hide O H) (vs.map (·.2)) ds → a ∉ D0 → Top D0 O H (.ref a) (.dict ((vs.map fun p => .tuple (p.1.map keyD)).zip ds))
def liftR (w : PW) : TE := fun σ H Q => ∃ G ρ, Rep T K G ρ σ H ∧ w ρ (fun d => ∀ v H', Rep T K G ρ σ H' → Top K T.dc G.O H' v d → Q v H') (exOut T K W G ρ σ)
end
def Mono {α : Type} (w : En → (α → Prop) → (Exn → Prop) → Prop) : Prop := ∀ ρ Q Q' E E', (∀ d, Q d → Q' d) → (∀ x, E x → E' x) → w ρ Q E → w ρ Q' E'
structure DE (T : Tb) (X : Cx) (W : WX) (e : Expr) (w : PW) : Prop where
  pe : PE X e (lift T X.K W w)
  mono : Mono w
structure DT (T : Tb) (X : Cx) (W : WX) (e : Expr) (w : PWB) : Prop where
  pt : PT X e (liftB T X.K W w)
  mono : Mono w
structure DA (T : Tb) (X : Cx) (W : WX) (es : List Expr) (w : PWs) : Prop where
  pa : PA X es (liftA T X.K W w)
  mono : Mono w
structure DF (T : Tb) (X : Cx) (W : WX) (e : Expr) (w : PW) : Prop where
  pe : PE X e (liftF T X.K W w)
  mono : Mono w
structure DR (T : Tb) (X : Cx) (W : WX) (e : Expr) (w : PW) : Prop where
  pe : PE X e (liftR T X.K W w)
  mono : Mono w
theorem pe_mono {X : Cx} {e : Expr} {t t' : TE} (h : PE X e t) (i : ∀ σ H Q, t' σ H Q → t σ H Q) : PE X e t' := ⟨fun pins s σ H Q I q => h.run pins s σ H Q I (i _ _ _ q)⟩
theorem pt_mono {X : Cx} {e : Expr} {t t' : TT} (h : PT X e t) (i : ∀ σ H Q, t' σ H Q → t σ H Q) : PT X e t' := ⟨fun pins s σ H Q I q => h.run pins s σ H Q I (i _ _ _ q)⟩
section
variable {T : Tb} {X : Cx} {W : WX} {K : PySem.W.Frag} {G : Gh} {ρ : En} {σ : L2.St} {H : Hp}
/-- going on: what is behind knows how the heap grew -/
theorem lift_intro {w : PW} {R : VK} (m : Mono w) (r : Rep T K G ρ σ H)
    (h : w ρ (fun d => ∀ v H', Rep T K G ρ σ H' → ExtN (hide G.O H) (hide G.O H') → Da K (hide G.O H') v d → R v H') (exOut T K W G ρ σ)) : lift T K W w σ H R :=
  ⟨⟨hide G.O H, G.O, G.fl⟩, ρ, r.rebase, m _ _ _ _ _ (fun d hd v H' r' a => hd v H' (r'.unbase r.ext) r'.ext a) (fun x hx H' cls dd r' q => hx H' cls dd (r'.unbase r.ext) q) h⟩
/-- what is in flight stays -/
theorem Rep.fly1 {a : Addr} {o : HO} (r : Rep T K G ρ σ H) (ha : a ∈ G.O) (h : H a = some o) (nd : a ∉ T.dc) : Rep T K ⟨G.Hb, G.O, (a, o) :: G.fl⟩ ρ σ H :=
  ⟨r.len, r.slot, r.sep, r.tab, r.ext, r.dom, fun p hp => by
    rcases List.mem_cons.mp hp with e | hp
    · rw [e]; exact ⟨ha, h⟩
    · exact r.fly p hp, fun b hb => ⟨(r.dcs b hb).1, (r.dcs b hb).2.1, fun q hq => by
    rcases List.mem_cons.mp hq with e | hq
    · rw [e]; exact fun z => nd (by rw [show a = b from z]; exact hb)
    · exact (r.dcs b hb).2.2 q hq⟩⟩
theorem Rep.land {p : Addr × HO} {Hb : Hp} {O : List Addr} {fl : List (Addr × HO)} (r : Rep T K ⟨Hb, O, p :: fl⟩ ρ σ H) : Rep T K ⟨Hb, O, fl⟩ ρ σ H ∧ H p.1 = some p.2 :=
  ⟨⟨r.len, r.slot, r.sep, r.tab, r.ext, r.dom, fun q hq => r.fly q (List.mem_cons_of_mem _ hq), fun b hb => ⟨(r.dcs b hb).1, (r.dcs b hb).2.1, fun q hq => (r.dcs b hb).2.2 q (List.mem_cons_of_mem _ hq)⟩⟩, (r.fly p List.mem_cons_self).2⟩
theorem liftR_intro {w : PW} {R : VK} (m : Mono w) (r : Rep T K G ρ σ H)
    (h : w ρ (fun d => ∀ v H', Rep T K G ρ σ H' → ExtN (hide G.O H) (hide G.O H') → Top K T.dc G.O H' v d → R v H') (exOut T K W G ρ σ)) : liftR T K W w σ H R :=
  ⟨⟨hide G.O H, G.O, G.fl⟩, ρ, r.rebase, m _ _ _ _ _ (fun d hd v H' r' a => hd v H' (r'.unbase r.ext) r'.ext a) (fun x hx H' cls dd r' q => hx H' cls dd (r'.unbase r.ext) q) h⟩
theorem liftB_intro {w : PWB} {R : Bool → Hp → Prop} (m : Mono w) (r : Rep T K G ρ σ H)
    (h : w ρ (fun b => ∀ H', Rep T K G ρ σ H' → ExtN (hide G.O H) (hide G.O H') → R b H') (exOut T K W G ρ σ)) : liftB T K W w σ H R :=
  ⟨⟨hide G.O H, G.O, G.fl⟩, ρ, r.rebase, m _ _ _ _ _ (fun d hd H' r' => hd H' (r'.unbase r.ext) r'.ext) (fun x hx H' cls dd r' q => hx H' cls dd (r'.unbase r.ext) q) h⟩
theorem liftA_intro {w : PWs} {R : List V → Hp → Prop} (m : Mono w) (r : Rep T K G ρ σ H)
    (h : w ρ (fun ds => ∀ vs H', Rep T K G ρ σ H' → ExtN (hide G.O H) (hide G.O H') → DaAll K (hide G.O H') vs ds → R vs H') (exOut T K W G ρ σ)) : liftA T K W w σ H R :=
  ⟨⟨hide G.O H, G.O, G.fl⟩, ρ, r.rebase, m _ _ _ _ _ (fun d hd vs H' r' a => hd vs H' (r'.unbase r.ext) r'.ext a) (fun x hx H' cls dd r' q => hx H' cls dd (r'.unbase r.ext) q) h⟩
end
end PL
set_option Elab.async false
set_option linter.all false
set_option maxRecDepth 100000
set_option maxHeartbeats 2000000
namespace PL
open PySem PySem.Spec PyProof.Rows L2
open LamX (ExtN Tabs TabS)
section
variable {T : Tb} {K : PySem.W.Frag} {G : Gh} {ρ : En} {σ : L2.St} {H H' : Hp}
theorem Rep.drop {a : Addr} (r0 : Rep T K G ρ σ H) (r : Rep T K ⟨G.Hb, a :: G.O, G.fl⟩ ρ σ H') (ap : Apt ρ σ a) : Rep T K G ρ σ H' where
  len := r.len
  slot i s h := by
    obtain ⟨v, h1, h2⟩ := r.slot i s h
    have e : ExtN (hide (a :: G.O) H') (hide G.O H') := ext_sub fun b hb => List.mem_cons_of_mem _ hb
    have rg0 : ∀ i A R, ρ[i]? = some (Sl.rg A R) → RgOwn T.dc G.O A := fun i A R h => by obtain ⟨_, _, _, h3, _⟩ := r0.slot i _ h; exact h3
    have mem : ∀ b, s.owned = true → v = some (.ref b) → Own T.dc (a :: G.O) b → Own T.dc G.O b := fun b ho ev hb => ⟨by
      rcases List.mem_cons.mp hb.1 with z | z
      · rw [ev, z] at h1
        exact absurd h1 (ap i s h ho).1
      · exact z, hb.2⟩
    refine ⟨v, h1, ?_⟩
    cases s with
    | un => trivial
    | sh d => obtain ⟨x, h3, h4⟩ := h2; exact ⟨x, h3, h4.ext e⟩
    | ol ds => obtain ⟨b, vs, h3, h4, h5, h6⟩ := h2; exact ⟨b, vs, h3, mem b rfl h3 h4, h5, h6.ext e⟩
    | ok ds => obtain ⟨b, vs, h3, h4, h5, h6, h7⟩ := h2; exact ⟨b, vs, h3, mem b rfl h3 h4, h5, h6, h7.ext e⟩
    | ot ds => obtain ⟨b, vs, h3, h4, h5, h6, h7⟩ := h2; exact ⟨b, vs, h3, mem b rfl h3 h4, h5, h6, h7.ext e⟩
    | ln b _ => obtain ⟨h3, h4, hob, h5, h7⟩ := h2; exact ⟨h3, mem b rfl h3 h4, hob, h5, h7.ext e⟩
    | on ds => obtain ⟨b, vs, h3, h4, h5, h6, h7⟩ := h2; exact ⟨b, vs, h3, mem b rfl h3 h4, h5, h6, h7.ext e⟩
    | sn d => obtain ⟨x, h3, h4⟩ := h2; exact ⟨x, h3, h4.ext e⟩
    | sk d => obtain ⟨x, h3, h4⟩ := h2; exact ⟨x, h3, h4.ext e⟩
    | rr d => obtain ⟨x, h3, h4⟩ := h2; exact ⟨x, h3, h4.ext e⟩
    | rg A R => obtain ⟨h3, h4, h5, h6⟩ := h2; exact ⟨h3, rg0 i A R h, h5, h6.ext e fun _ _ => rfl⟩
    | dice => exact h2
    | scr ns => obtain ⟨b, h3, h4⟩ := h2; exact ⟨b, h3, sqL_ext e h4⟩
  sep := r.sep
  tab := r.tab
  ext := r.ext.trans (ext_sub fun b hb => List.mem_cons_of_mem _ hb)
  dom b hb := r.dom b (List.mem_cons_of_mem _ hb)
  fly p hp := ⟨(r0.fly p hp).1, (r.fly p hp).2⟩
  dcs b hb := ⟨(r0.dcs b hb).1, (r.dcs b hb).2⟩
/-- a new list is laid, ours -/
theorem Rep.own {a : Addr} {o : HO} (r : Rep T K G ρ σ H) (h : H a = none) (ho : NT o) : Rep T K ⟨G.Hb, a :: G.O, G.fl⟩ ρ σ (upd H a o) ∧ hide (a :: G.O) (upd H a o) = hide G.O H ∧ a ∉ G.O ∧ Apt ρ σ a := by
  have na : a ∉ G.O := fun z => by obtain ⟨o, e, _⟩ := r.dom a z; rw [h] at e; cases e
  have eh : hide (a :: G.O) (upd H a o) = hide G.O H := hide_new h
  have at_ : ∀ b ∈ G.O, upd H a o b = H b := fun b hb => upd_ne fun z => na (by rw [← z]; exact hb)
  have al : ∀ b o', H b = some o' → upd H a o b = some o' := fun b o' e => by rw [upd_ne (ne_of_none e h)]; exact e
  refine ⟨⟨r.len, fun i s hs => ?_, r.sep, r.tab.keep al, by rw [eh]; exact r.ext, fun b hb => ?_, fun p hp => ?_, fun b hb => ⟨List.mem_cons_of_mem _ (r.dcs b hb).1, by rw [at_ b (r.dcs b hb).1]; exact (r.dcs b hb).2.1, (r.dcs b hb).2.2⟩⟩, eh, na, fun i s hs hw => ⟨fun e => ?_, ?_⟩⟩
  · obtain ⟨v, h1, h2⟩ := r.slot i s hs
    refine ⟨v, h1, ?_⟩
    cases s with
    | un => trivial
    | sh d => obtain ⟨x, h3, h4⟩ := h2; exact ⟨x, h3, by rw [eh]; exact h4⟩
    | ol ds => obtain ⟨b, vs, h3, h4, h5, h6⟩ := h2; exact ⟨b, vs, h3, ⟨List.mem_cons_of_mem _ h4.1, h4.2⟩, (at_ b h4.1).trans h5, by rw [eh]; exact h6⟩
    | ok ds => obtain ⟨b, vs, h3, h4, h5, h6, h7⟩ := h2; exact ⟨b, vs, h3, ⟨List.mem_cons_of_mem _ h4.1, h4.2⟩, (at_ b h4.1).trans h5, h6, by rw [eh]; exact h7⟩
    | ot ds => obtain ⟨b, vs, h3, h4, h5, h6, h7⟩ := h2; exact ⟨b, vs, h3, ⟨List.mem_cons_of_mem _ h4.1, h4.2⟩, (at_ b h4.1).trans h5, h6, by rw [eh]; exact h7⟩
    | ln b _ => obtain ⟨h3, h4, hob, h5, h7⟩ := h2; exact ⟨h3, ⟨List.mem_cons_of_mem _ h4.1, h4.2⟩, hob, (at_ b h4.1).trans h5, by rw [eh]; exact h7⟩
    | on ds => obtain ⟨b, vs, h3, h4, h5, h6, h7⟩ := h2; exact ⟨b, vs, h3, ⟨List.mem_cons_of_mem _ h4.1, h4.2⟩, (at_ b h4.1).trans h5, h6, by rw [eh]; exact h7⟩
    | sn d => obtain ⟨x, h3, h4⟩ := h2; exact ⟨x, h3, by rw [eh]; exact h4⟩
    | sk d => obtain ⟨x, h3, h4⟩ := h2; exact ⟨x, h3, by rw [eh]; exact h4⟩
    | rr d => obtain ⟨x, h3, h4⟩ := h2; exact ⟨x, h3, by rw [eh]; exact h4⟩
    | rg A R => obtain ⟨h3, h4, h5, h6⟩ := h2; exact ⟨h3, fun a ha => ⟨List.mem_cons_of_mem _ (h4 a ha).1, (h4 a ha).2⟩, h5, by rw [eh]; exact h6.ext (ExtN.refl _) fun a ha => at_ a (h4 a ha).1⟩
    | dice => exact h2
    | scr ns => obtain ⟨b, h3, h4⟩ := h2; exact ⟨b, h3, by rw [eh]; exact h4⟩
  · rcases List.mem_cons.mp hb with z | z
    · rw [z, upd_same]; exact ⟨o, rfl, ho⟩
    · rw [at_ b z]; exact r.dom b z
  · obtain ⟨h1, h2⟩ := r.fly p hp
    exact ⟨List.mem_cons_of_mem _ h1, (at_ _ h1).trans h2⟩
  · obtain ⟨v, h1, h2⟩ := r.slot i s hs
    rw [e] at h1
    cases h1
    have : a ∈ G.O := by
      cases s with
      | un => cases hw
      | sh d => cases hw
      | ol ds => obtain ⟨b, vs, h3, h4, _⟩ := h2; cases h3; exact h4.1
      | ok ds => obtain ⟨b, vs, h3, h4, _⟩ := h2; cases h3; exact h4.1
      | ot ds => obtain ⟨b, vs, h3, h4, _⟩ := h2; cases h3; exact h4.1
      | ln b _ => obtain ⟨h3, h4, _⟩ := h2; cases h3; exact h4.1
      | sn ds => cases hw
      | sk ds => cases hw
      | rr ds => cases hw
      | rg A R => obtain ⟨h3, h4, _⟩ := h2; cases h3; exact (h4 _ (.inl rfl)).1
      | on ds => obtain ⟨b, vs, h3, h4, _⟩ := h2; cases h3; exact h4.1
      | dice => obtain ⟨b, h3, h4⟩ := h2; cases h3; exact (r.dcs _ h4).1
      | scr ns => cases hw
    exact na this
  · cases s with
    | rg A R =>
      obtain ⟨v, _, _, h4, _⟩ := r.slot i _ hs
      exact fun z => na (h4 a z).1
    | _ => trivial
theorem Top.ext {D0 O : List Addr} {v : V} {d : PyData} (h : Top K D0 O H v d) (e : ExtN (hide O H) (hide O H')) (hv : ∀ a, v = .ref a → a ∈ O → a ∉ D0 → H' a = H a) : Top K D0 O H' v d := by
  cases h with
  | sh h => exact .sh (h.ext e)
  | ol h1 h2 h3 h4 => exact .ol h1 ((hv _ rfl h1 h4).trans h2) (h3.ext e) h4
  | ok h1 h2 h3 h4 => exact .ok h1 ((hv _ rfl h1 h4).trans h2) (h3.ext e) h4
  | ot h1 h2 h3 h4 => exact .ot h1 ((hv _ rfl h1 h4).trans h2) (h3.ext e) h4
/-- without regard to whose it is -/
theorem Top.da {D0 O : List Addr} {v : V} {ds : List PyData} (h : Top K D0 O H v (.list ds)) : ∃ a vs, v = .ref a ∧ H a = some (.lst vs) ∧ DaAll K (hide O H) vs ds := by
  cases h with
  | sh h => cases h with
    | lst h1 h2 => exact ⟨_, _, rfl, (hide_some h1).2, h2⟩
  | ol h1 h2 h3 => exact ⟨_, _, rfl, h2, h3⟩
theorem Da.whole {O : List Addr} {v : V} {d : PyData} (h : Da K (hide O H) v d) : Da K H v d := h.ext fun b o e _ => (hide_some e).2
theorem DaAll.whole {O : List Addr} {vs : List V} {ds : List PyData} (h : DaAll K (hide O H) vs ds) : DaAll K H vs ds := h.ext fun b o e _ => (hide_some e).2
theorem Top.whole {D0 O : List Addr} {v : V} {d : PyData} (h : Top K D0 O H v d) (p : PyData.plain d = true) : Da K H v d := by
  cases h with
  | sh h => exact h.whole
  | ol h1 h2 h3 => exact .lst h2 h3.whole
  | ok h1 h2 h3 => simp [PyData.plain] at p
  | ot h1 h2 h3 => simp [PyData.plain] at p
end
section
variable {T : Tb} {X : Cx} {W : WX} {pos : Pos} {e a b : Expr}
def wVar (i : Nat) : PW := fun ρ Q _ => match ρ[i]? with
  | some (.sh d) => Q d
  | _ => False
def wRd (i : Nat) : PW := fun ρ Q _ => match ρ[i]? with
  | some (.sh d) => Q d
  | some (.ol ds) => Q (.list ds)
  | some (.ok kvs) => Q (.dict (kvs.map fun p => (keyD p.1, p.2)))
  | some (.ot kvs) => Q (.dict (kvs.map fun p => (.tuple (p.1.map keyD), p.2)))
  | some (.ln _ (.l ds)) => Q (.list ds)
  | _ => False
def wC (d : PyData) : PW := fun _ Q _ => Q d
theorem mono_C {d : PyData} : Mono (wC d) := fun _ _ _ _ _ hq _ h => hq _ h
theorem mono_var {i : Nat} : Mono (wVar i) := fun ρ Q Q' E E' hq _ h => by
  unfold wVar at h ⊢
  split at h
  · exact hq _ h
  · exact h
theorem mono_rd {i : Nat} : Mono (wRd i) := fun ρ Q Q' E E' hq _ h => by
  unfold wRd at h ⊢
  split at h
  · exact hq _ h
  · exact hq _ h
  · exact hq _ h
  · exact hq _ h
  · exact hq _ h
  · exact h
theorem de_var (i : Nat) (p : PE X e (tVar i)) : DE T X W e (wVar i) := ⟨pe_mono p fun σ H Q h => by
  obtain ⟨G, ρ, r, h⟩ := h
  unfold wVar at h
  split at h
  · rename_i d hd
    obtain ⟨v, h1, x, h2, h3⟩ := r.slot i _ hd
    rw [h2] at h1
    exact ⟨x, h1, h x H r h3⟩
  · exact h.elim, mono_var⟩
theorem zip_map {α : Type} (f : α → PyData) : ∀ (vs : List (α × V)) (kvs : List (α × PyData)), vs.map (·.1) = kvs.map (·.1) → (vs.map fun p => f p.1).zip (kvs.map (·.2)) = kvs.map fun p => (f p.1, p.2)
  | [], [], _ => rfl
  | [], _ :: _, h => by cases h
  | _ :: _, [], h => by cases h
  | p :: r, q :: t, h => by
    injection h with h1 h2
    simp only [List.map_cons, List.zip_cons_cons, h1, zip_map f r t h2]
theorem dr_var (i : Nat) (p : PE X e (tVar i)) : DR T X W e (wRd i) := ⟨pe_mono p fun σ H Q h => by
  obtain ⟨G, ρ, r, h⟩ := h
  unfold wRd at h
  split at h
  · rename_i d hd
    obtain ⟨v, h1, x, h2, h3⟩ := r.slot i _ hd
    rw [h2] at h1
    exact ⟨x, h1, h x H r (.sh h3)⟩
  · rename_i d hd
    obtain ⟨v, h1, a, vs, h2, h3, h4, h5⟩ := r.slot i _ hd
    rw [h2] at h1
    exact ⟨_, h1, h _ H r (.ol h3.1 h4 h5 h3.2)⟩
  · rename_i d hd
    obtain ⟨v, h1, a, vs, h2, h3, h4, h5, h6⟩ := r.slot i _ hd
    rw [h2] at h1
    refine ⟨_, h1, h _ H r ?_⟩
    rw [← zip_map keyD vs d h5]
    exact .ok h3.1 h4 h6 h3.2
  · rename_i d hd
    obtain ⟨v, h1, a, vs, h2, h3, h4, h5, h6⟩ := r.slot i _ hd
    rw [h2] at h1
    refine ⟨_, h1, h _ H r ?_⟩
    rw [← zip_map (fun k => .tuple (k.map keyD)) vs d h5]
    exact .ot h3.1 h4 h6 h3.2
  · rename_i a d hd
    obtain ⟨v, h1, h2, h3, o, h4, vs, rfl, h5⟩ := r.slot i _ hd
    rw [h2] at h1
    exact ⟨_, h1, h _ H r (.ol h3.1 h4 h5 h3.2)⟩
  · exact h.elim, mono_rd⟩
theorem de_c {v : V} {d : PyData} (p : PE X e (tC v)) (h : ∀ H, Da X.K H v d) : DE T X W e (wC d) := ⟨pe_mono p fun σ H Q q => by
  obtain ⟨G, ρ, r, q⟩ := q
  exact q v H r (h _), mono_C⟩
theorem de_int {i j} : DE T X W (.Constant (.int i) j pos) (wC (.int i)) := de_c pe_int fun _ => .int i
theorem de_bl {b j} : DE T X W (.Constant (.bool b) j pos) (wC (.bool b)) := de_c pe_bl fun _ => .bl b
theorem de_non {j} : DE T X W (.Constant .none j pos) (wC .none) := de_c pe_non fun _ => .non
theorem de_str {x j} : DE T X W (.Constant (.str x) j pos) (wC (.str x)) := de_c pe_str fun _ => .str x
theorem dr_of {w : PW} (h : DE T X W e w) : DR T X W e w := ⟨pe_mono h.pe fun σ H Q q => by
  obtain ⟨G, ρ, r, q⟩ := q
  exact ⟨G, ρ, r, h.mono _ _ _ _ _ (fun d hd v H' r' a => hd v H' r' (.sh a)) (fun _ z => z) q⟩, h.mono⟩
theorem de_fresh {w : PW} (h : DF T X W e w) : DE T X W e w := ⟨pe_mono h.pe fun σ H Q q => by
  obtain ⟨G, ρ, r, q⟩ := q
  refine ⟨G, ρ, r, h.mono _ _ _ _ _ (fun d hd a vs ds H' ed r' na ap h1 h2 => ?_) (fun _ z => z) q⟩
  subst ed
  exact hd _ H' (r.drop r' ap) (.lst (by rw [hide_out na]; exact h1) (h2.ext (ext_sub fun b hb => List.mem_cons_of_mem _ hb))), h.mono⟩
def w2 (f : PyData → PyData → (PyData → Prop) → Prop) (wa wb : PW) : PW := fun ρ Q E => wa ρ (fun x => wb ρ (fun y => f x y Q) E) E
def MonoF (f : PyData → PyData → (PyData → Prop) → Prop) : Prop := ∀ x y Q Q', (∀ d, Q d → Q' d) → f x y Q → f x y Q'
theorem mono_2 {f : PyData → PyData → (PyData → Prop) → Prop} {wa wb : PW} (mf : MonoF f) (ma : Mono wa) (mb : Mono wb) : Mono (w2 f wa wb) := fun ρ Q Q' E E' hq he h =>
  ma _ _ _ _ _ (fun x hx => mb _ _ _ _ _ (fun y hy => mf _ _ _ _ hq hy) he hx) he h
/-- what an operator does to data -/
def OpD (T : Tb) (X : Cx) (g : Value → Value → Sem Value) (f : PyData → PyData → (PyData → Prop) → Prop) : Prop :=
  OpR X g fun x y H Q => ∃ (G : Gh) (ρ : En) (σ : L2.St) (d e : PyData), Rep T X.K G ρ σ H ∧ Top X.K T.dc G.O H x d ∧ Top X.K T.dc G.O H y e ∧ f d e fun r => ∀ v H', Rep T X.K G ρ σ H' → Da X.K (hide G.O H') v r → Q v H'
/-- .. that makes a new list -/
def OpF (T : Tb) (X : Cx) (g : Value → Value → Sem Value) (f : PyData → PyData → (PyData → Prop) → Prop) : Prop :=
  OpR X g fun x y H Q => ∃ (G : Gh) (ρ : En) (σ : L2.St) (d e : PyData), Rep T X.K G ρ σ H ∧ Top X.K T.dc G.O H x d ∧ Top X.K T.dc G.O H y e ∧ f d e fun r => ∀ a vs ds H', r = .list ds → Rep T X.K ⟨G.Hb, a :: G.O, G.fl⟩ ρ σ H' → a ∉ G.O → Apt ρ σ a → H' a = some (.lst vs) → DaAll X.K (hide (a :: G.O) H') vs ds → Q (.ref a) H'
theorem both {K : PySem.W.Frag} {G : Gh} {ρ : En} {σ : L2.St} {H : Hp} {wa wb : PW} {P : PyData → PyData → Prop} {R : V → V → Hp → Prop} (ma : Mono wa) (mb : Mono wb) (r : Rep T K G ρ σ H)
    (hP : ∀ v u H' x y, Rep T K G ρ σ H' → ExtN (hide G.O H) (hide G.O H') → Top K T.dc G.O H' v x → Top K T.dc G.O H' u y → P x y → R v u H')
    (h : wa ρ (fun x => wb ρ (P x) (exOut T K W G ρ σ)) (exOut T K W G ρ σ)) : liftR T K W wa σ H fun v H1 => liftR T K W wb σ H1 fun u H2 => R v u H2 := by
  refine liftR_intro ma r (ma _ _ _ _ _ (fun x hx v H1 r1 e1 t1 => ?_) (fun _ z => z) h)
  by_cases own : ∃ a o, v = .ref a ∧ a ∈ G.O ∧ a ∉ T.dc ∧ H1 a = some o
  · obtain ⟨a, o, ev, ha, nd, ho⟩ := own
    refine liftR_intro (G := ⟨G.Hb, G.O, (a, o) :: G.fl⟩) mb (r1.fly1 ha ho nd) (mb _ _ _ _ _ (fun y hy u H2 r2 e2 t2 => ?_) (fun ex hex H' cls dd r' q => hex H' cls dd r'.land.1 q) hx)
    obtain ⟨r2', k⟩ := r2.land
    exact hP v u H2 x y r2' (e1.trans e2) (t1.ext e2 fun b eb hb _ => by rw [ev] at eb; cases eb; rw [show H2 a = some o from k, ho]) t2 hy
  · refine liftR_intro mb r1 (mb _ _ _ _ _ (fun y hy u H2 r2 e2 t2 => ?_) (fun _ z => z) hx)
    exact hP v u H2 x y r2 (e1.trans e2) (t1.ext e2 fun b eb hb nd => by
      obtain ⟨o, ho, _⟩ := r1.dom b hb
      exact absurd ⟨b, o, eb, hb, nd, ho⟩ own) t2 hy
theorem de_op {op : Operator} {f : PyData → PyData → (PyData → Prop) → Prop} {wa wb : PW} (ho : OpD T X (binaryOp op) f) (mf : MonoF f) (ha : DR T X W a wa) (hb : DR T X W b wb) : DE T X W (.BinOp a op b pos) (w2 f wa wb) :=
  ⟨pe_mono (pe_op ho ha.pe hb.pe) fun σ H Q q => by
    obtain ⟨G, ρ, r, q⟩ := q
    exact both (P := fun x y => f x y fun d => ∀ v H', Rep T X.K G ρ σ H' → Da X.K (hide G.O H') v d → Q v H') ha.mono hb.mono r (fun v u H' x y r' e tv tu p => ⟨G, ρ, σ, x, y, r', tv, tu, p⟩) q, mono_2 mf ha.mono hb.mono⟩
theorem df_op {op : Operator} {f : PyData → PyData → (PyData → Prop) → Prop} {wa wb : PW} (ho : OpF T X (binaryOp op) f) (mf : MonoF f) (ha : DR T X W a wa) (hb : DR T X W b wb) : DF T X W (.BinOp a op b pos) (w2 f wa wb) :=
  ⟨pe_mono (pe_op ho ha.pe hb.pe) fun σ H Q q => by
    obtain ⟨G, ρ, r, q⟩ := q
    exact both ha.mono hb.mono r (fun v u H' x y r' e tv tu p => ⟨G, ρ, σ, x, y, r', tv, tu, p⟩) q, mono_2 mf ha.mono hb.mono⟩
theorem de_cmp {op : CmpOp} {f : PyData → PyData → (PyData → Prop) → Prop} {wa wb : PW} (ho : OpD T X (compareOp op) f) (mf : MonoF f) (ha : DR T X W a wa) (hb : DR T X W b wb) (hm : behindInMarks op b = false) : DE T X W (.Compare a [op] [b] pos) (w2 f wa wb) :=
  ⟨pe_mono (pe_cmpR ho ha.pe hb.pe hm) fun σ H Q q => by
    obtain ⟨G, ρ, r, q⟩ := q
    exact both (P := fun x y => f x y fun d => ∀ v H', Rep T X.K G ρ σ H' → Da X.K (hide G.O H') v d → Q v H') ha.mono hb.mono r (fun v u H' x y r' e tv tu p => ⟨G, ρ, σ, x, y, r', tv, tu, p⟩) q, mono_2 mf ha.mono hb.mono⟩
end
end PL
set_option Elab.async false
set_option linter.all false
set_option maxRecDepth 100000
set_option maxHeartbeats 2000000
namespace PL
open PySem PySem.Spec PyProof.Rows L2
open LamX (ExtN Tabs TabS)
section
variable {K : PySem.W.Frag} {D0 O : List Addr} {H : Hp} {v : V}
theorem Top.int {i : Int} (h : Top K D0 O H v (.int i)) : v = .int i := by cases h with | sh h => cases h; rfl
theorem Top.str {x : Str} (h : Top K D0 O H v (.str x)) : v = .str x := by cases h with | sh h => cases h; rfl
theorem Top.bl {x : Bool} (h : Top K D0 O H v (.bool x)) : v = .bl x := by cases h with | sh h => cases h; rfl
theorem Top.non (h : Top K D0 O H v .none) : v = .non := by cases h with | sh h => cases h; rfl
theorem sqT_whole {a : Addr} {xs : List V} (h : SqT K (hide O H) a xs) : SqT K H a xs := sqT_ext (fun b o e _ => (hide_some e).2) h
theorem Top.tup {ds : List PyData} (h : Top K D0 O H v (.tuple ds)) : ∃ a xs, v = .ref a ∧ Da K (hide O H) (.ref a) (.tuple ds) ∧ SqT K H a xs ∧ DaAll K (hide O H) xs ds := by
  cases h with
  | sh h => cases h with
    | tup h1 h2 => exact ⟨_, _, rfl, .tup h1 h2, SqT.of (hide_some h1).2, h2⟩
    | ftup h1 h2 h3 h4 => exact ⟨_, _, rfl, .ftup h1 h2 h3 h4, .inl (.inr ⟨_, (hide_some h1).2⟩), h4⟩
theorem Da.seq {ds : List PyData} (h : Da K H v (.tuple ds)) : ∃ a xs, v = .ref a ∧ SqT K H a xs ∧ DaAll K H xs ds := by
  cases h with
  | tup h1 h2 => exact ⟨_, _, rfl, SqT.of h1, h2⟩
  | ftup h1 _ _ h4 => exact ⟨_, _, rfl, .inl (.inr ⟨_, h1⟩), h4⟩
theorem Da.bl_ {x : Bool} (h : Da K H v (.bool x)) : v = .bl x := by cases h; rfl
end
section
variable {T : Tb} {X : Cx} {W : WX} {pos : Pos} {e a b : Expr} {K : PySem.W.Frag} {G : Gh} {ρ : En} {σ : L2.St} {H H' : Hp}
def fI (C : Int → Int → Prop) (g : Int → Int → Int) : PyData → PyData → (PyData → Prop) → Prop
  | .int i, .int j, Q => C i j ∧ Q (.int (g i j))
  | _, _, _ => False
theorem mono_fI {C : Int → Int → Prop} {g : Int → Int → Int} : MonoF (fI C g) := fun x y Q Q' hq h => by
  unfold fI at h ⊢
  split at h
  · exact ⟨h.1, hq _ h.2⟩
  · exact h
theorem opD_int {f : Value → Value → Sem Value} {C : Int → Int → Prop} {g : Int → Int → Int} (h : OpR X f (rI C fun i j => .int (g i j))) : OpD T X f (fI C g) := by
  intro pins s σ0 H x y v u Q I rx ry q
  obtain ⟨G, ρ, σ, d, e, r, tx, ty, q⟩ := q
  unfold fI at q
  split at q
  · rename_i i j
    exact h pins s σ0 H x y v u Q I rx ry ⟨i, j, tx.int, ty.int, q.1, q.2 _ H r (.int _)⟩
  · exact q.elim
abbrev CT : Int → Int → Prop := fun _ _ => True
theorem opD_sub : OpD T X (binaryOp .Sub) (fI CT fun i j => i - j) := opD_int fun pins s σ H x y v u Q I rx ry h => op_sub pins s σ H x y v u Q I rx ry (by obtain ⟨i, j, a, b, _, c⟩ := h; exact ⟨i, j, a, b, c⟩)
theorem opD_fdiv : OpD T X (binaryOp .FloorDiv) (fI CDiv fun i j => i / j) := opD_int op_fdiv
theorem opD_mod : OpD T X (binaryOp .Mod) (fI (fun _ j => 0 < j) fun i j => i % j) := opD_int op_mod
theorem opD_pow : OpD T X (binaryOp .Pow) (fI CPow fun i j => i ^ j.toNat) := opD_int op_pow
def fAdd : PyData → PyData → (PyData → Prop) → Prop
  | .int i, .int j, Q => Q (.int (i + j))
  | .str x, .str y, Q => x.length + y.length ≤ sizeLine ∧ Q (.str (x ++ y))
  | .tuple xs, .tuple ys, Q => xs.length + ys.length ≤ sizeLine ∧ Q (.tuple (xs ++ ys))
  | _, _, _ => False
theorem mono_add : MonoF fAdd := fun x y Q Q' hq h => by
  unfold fAdd at h ⊢
  split at h
  · exact hq _ h
  · exact ⟨h.1, hq _ h.2⟩
  · exact ⟨h.1, hq _ h.2⟩
  · exact h
theorem Rep.new (r : Rep T K G ρ σ H) {p : Addr} {o : HO} (h : H p = none) : Rep T K G ρ σ (upd H p o) ∧ ExtN (hide G.O H) (hide G.O (upd H p o)) ∧ p ∉ G.O ∧ hide G.O (upd H p o) p = some o := by
  have np : p ∉ G.O := fun z => by obtain ⟨o, e, _⟩ := r.dom p z; rw [h] at e; cases e
  have al : ∀ b o', H b = some o' → upd H p o b = some o' := fun b o' e => by rw [upd_ne (ne_of_none e h)]; exact e
  exact ⟨r.alloc al, ext_hide fun b o' _ e _ => al b o' e, np, by rw [hide_out np, upd_same]⟩
theorem opD_add : OpD T X (binaryOp .Add) fAdd := by
  intro pins s σ0 H x y v u Q I rx ry q
  obtain ⟨G, ρ, σ, d, e, r, tx, ty, q⟩ := q
  unfold fAdd at q
  split at q
  · rename_i i j
    exact op_add pins s σ0 H x y v u Q I rx ry ⟨i, j, tx.int, ty.int, q _ H r (.int _)⟩
  · rename_i i j
    exact op_add_str pins s σ0 H x y v u Q I rx ry ⟨i, j, tx.str, ty.str, q.1, q.2 _ H r (.str _)⟩
  · obtain ⟨a, xs, rfl, ha', ha, hx⟩ := tx.tup
    obtain ⟨b, ys, rfl, hb', hb, hy⟩ := ty.tup
    refine op_catA pins s σ0 H _ _ v u Q I rx ry ⟨a, b, xs, ys, rfl, rfl, ha, hb, by rw [hx.length, hy.length]; exact q.1, fun ex => ?_, fun _ ey => ?_, fun _ _ p hp => ?_⟩
    · subst ex
      cases hx
      exact q.2 _ H r hb'
    · subst ey
      cases hy
      refine q.2 _ H r ?_
      rw [List.append_nil]
      exact ha'
    · obtain ⟨r', e', np, hh⟩ := r.new (o := .tup (xs ++ ys)) hp
      exact q.2 _ _ r' (.tup hh ((hx.append hy).ext e'))
  · exact q.elim
/-- xs + ys, new -/
def fCat : PyData → PyData → (PyData → Prop) → Prop
  | .list xs, .list ys, Q => xs.length + ys.length ≤ sizeLine ∧ Q (.list (xs ++ ys))
  | _, _, _ => False
theorem mono_cat : MonoF fCat := fun x y Q Q' hq h => by
  unfold fCat at h ⊢
  split at h
  · exact ⟨h.1, hq _ h.2⟩
  · exact h
theorem Rep.newL (r : Rep T K G ρ σ H) {p : Addr} {vs : List V} {ds : List PyData} (h : H p = none) (a : DaAll K (hide G.O H) vs ds) :
    Rep T K ⟨G.Hb, p :: G.O, G.fl⟩ ρ σ (upd H p (.lst vs)) ∧ p ∉ G.O ∧ Apt ρ σ p ∧ upd H p (.lst vs) p = some (.lst vs) ∧ DaAll K (hide (p :: G.O) (upd H p (.lst vs))) vs ds := by
  obtain ⟨r', eh, na, ap⟩ := r.own (o := .lst vs) h (nt_of rfl)
  exact ⟨r', na, ap, upd_same, by rw [eh]; exact a⟩
theorem opF_cat : OpF T X (binaryOp .Add) fCat := by
  intro pins s σ0 H x y v u Q I rx ry q
  obtain ⟨G, ρ, σ, d, e, r, tx, ty, q⟩ := q
  unfold fCat at q
  split at q
  · obtain ⟨a, xs, rfl, ha, hx⟩ := tx.da
    obtain ⟨b, ys, rfl, hb, hy⟩ := ty.da
    refine op_cat pins s σ0 H _ _ v u Q I rx ry ⟨a, b, xs, ys, rfl, rfl, ha, hb, by rw [hx.length, hy.length]; exact q.1, fun p hp => ?_⟩
    obtain ⟨r', na, ap, h1, h2⟩ := r.newL hp (hx.append hy)
    exact q.2 p _ _ _ rfl r' na ap h1 h2
  · exact q.elim
/-- i * j; a text n times -/
def repS (x : Str) (n : Nat) : Str := ⟨(List.replicate n x.cps).foldl (· ++ ·) #[]⟩
def fMul : PyData → PyData → (PyData → Prop) → Prop
  | .int i, .int j, Q => CMul i j ∧ Q (.int (i * j))
  | .str x, .int n, Q => (-(2 ^ 63) ≤ n ∧ x.length * n.toNat ≤ sizeLine ∧ n < 2 ^ 20) ∧ Q (.str (repS x n.toNat))
  | _, _, _ => False
theorem mono_mul : MonoF fMul := fun x y Q Q' hq h => by
  unfold fMul at h ⊢
  split at h
  · exact ⟨h.1, hq _ h.2⟩
  · exact ⟨h.1, hq _ h.2⟩
  · exact h
def Pl (d : PyData) : Prop := d.plain = true ∧ d.depth ≤ 30
def fEq (neg : Bool) : PyData → PyData → (PyData → Prop) → Prop := fun x y Q => (Pl x ∧ Pl y) ∧ Q (.bool (if neg then !PyData.eqv x y else PyData.eqv x y))
theorem mono_eq {n : Bool} : MonoF (fEq n) := fun _ _ _ _ hq h => ⟨h.1, hq _ h.2⟩
theorem opD_eq {k : Nat} (hr : Room k X.A) : OpD T X (compareOp .Eq) (fEq false) := by
  intro pins s σ0 H x y v u Q I rx ry q
  obtain ⟨G, ρ, σ, d, e, r, tx, ty, ⟨⟨pd, dd⟩, pe, de⟩, q⟩ := q
  obtain ⟨as, r1⟩ := Dp.reads I d x v ((tx.whole pd).dp pd) rx
  obtain ⟨bs, r2⟩ := Dp.reads I e y u ((ty.whole pe).dp pe) ry
  exact SeqAt.eq_plain r1 r2 pd pe (by have := hr.un; have : min d.depth e.depth ≤ d.depth := Nat.min_le_left _ _; omega) ⟨.bl _, H, I, rfl, q _ H r (.bl _)⟩
theorem opD_ne {k : Nat} (hr : Room k X.A) : OpD T X (compareOp .NotEq) (fEq true) := by
  intro pins s σ0 H x y v u Q I rx ry q
  obtain ⟨G, ρ, σ, d, e, r, tx, ty, ⟨⟨pd, dd⟩, pe, de⟩, q⟩ := q
  obtain ⟨as, r1⟩ := Dp.reads I d x v ((tx.whole pd).dp pd) rx
  obtain ⟨bs, r2⟩ := Dp.reads I e y u ((ty.whole pe).dp pe) ry
  exact SeqAt.ne_plain r1 r2 pd pe (by have := hr.un; have : min d.depth e.depth ≤ d.depth := Nat.min_le_left _ _; omega) ⟨.bl _, H, I, rfl, q _ H r (.bl _)⟩
/-- of ints -/
def fC (g : Int → Int → Bool) : PyData → PyData → (PyData → Prop) → Prop
  | .int i, .int j, Q => Q (.bool (g i j))
  | _, _, _ => False
theorem mono_fC {g : Int → Int → Bool} : MonoF (fC g) := fun x y Q Q' hq h => by
  unfold fC at h ⊢
  split at h
  · exact hq _ h
  · exact h
theorem opD_cmp {f : Value → Value → Sem Value} {g : Int → Int → Bool} (h : OpR X f (rI0 fun i j => .bl (g i j))) : OpD T X f (fC g) := by
  intro pins s σ0 H x y v u Q I rx ry q
  obtain ⟨G, ρ, σ, d, e, r, tx, ty, q⟩ := q
  unfold fC at q
  split at q
  · rename_i i j
    exact h pins s σ0 H x y v u Q I rx ry ⟨i, j, tx.int, ty.int, q _ H r (.bl _)⟩
  · exact q.elim
theorem opD_ltI : OpD T X (compareOp .Lt) (fC fun i j => decide (i < j)) := opD_cmp op_lt
theorem opD_leI : OpD T X (compareOp .LtE) (fC fun i j => decide (i ≤ j)) := opD_cmp op_le
theorem opD_gtI : OpD T X (compareOp .Gt) (fC fun i j => decide (j < i)) := opD_cmp op_gt
theorem opD_geI : OpD T X (compareOp .GtE) (fC fun i j => decide (j ≤ i)) := opD_cmp op_ge
/-- is None -/
def isN : PyData → Bool
  | .none => true
  | _ => false
theorem isN_of {v : V} {d : PyData} {D0 O : List Addr} (h : Top K D0 O H v d) : decide (v = .non) = isN d := by
  cases h with
  | sh h => cases h with
    | ob h => obtain ⟨a, rfl⟩ := h.ref; rfl
    | _ => rfl
  | ol => rfl
  | ok => rfl
  | ot => rfl
theorem opD_isN : OpD T X (compareOp .Is) (fun x y Q => y = .none ∧ Q (.bool (isN x))) := by
  intro pins s σ0 H x y v u Q I rx ry q
  obtain ⟨G, ρ, σ, d, e, r, tx, ty, rfl, q⟩ := q
  exact op_isN pins s σ0 H x y v u Q I rx ry ⟨ty.non, by rw [isN_of tx]; exact q _ H r (.bl _)⟩
theorem opD_notN : OpD T X (compareOp .IsNot) (fun x y Q => y = .none ∧ Q (.bool (!isN x))) := by
  intro pins s σ0 H x y v u Q I rx ry q
  obtain ⟨G, ρ, σ, d, e, r, tx, ty, rfl, q⟩ := q
  exact op_notN pins s σ0 H x y v u Q I rx ry ⟨ty.non, by rw [isN_of tx]; exact q _ H r (.bl _)⟩
theorem inroom {k u a b : Nat} (hu : u + 16 * k + 200 < cLine) (dd : b ≤ 30) : u + 1 + min a b < cLine := by
  have : min a b ≤ b := Nat.min_le_right _ _
  omega
/-- x in xs; a text in a text -/
def fIn (neg : Bool) : PyData → PyData → (PyData → Prop) → Prop
  | x, .list ys, Q => (Pl x ∧ Pl (.list ys)) ∧ Q (.bool (if neg then !(ys.any fun z => PyData.eqv z x) else ys.any fun z => PyData.eqv z x))
  | x, .tuple ys, Q => (Pl x ∧ Pl (.tuple ys)) ∧ Q (.bool (if neg then !(ys.any fun z => PyData.eqv z x) else ys.any fun z => PyData.eqv z x))
  | .str a, .str b, Q => Q (.bool (if neg then !(!(Builtin.Str.occurrences b a 0 b.length 1).isEmpty) else !(Builtin.Str.occurrences b a 0 b.length 1).isEmpty))
  | _, _, _ => False
theorem mono_in {n : Bool} : MonoF (fIn n) := fun x y Q Q' hq h => by
  unfold fIn at h ⊢
  split at h
  · exact ⟨h.1, hq _ h.2⟩
  · exact ⟨h.1, hq _ h.2⟩
  · exact hq _ h
  · exact h
theorem opD_in {k : Nat} (hr : Room k X.A) : OpD T X (compareOp .In) (fIn false) := by
  intro pins s σ0 H x y v u Q I rx ry q
  obtain ⟨G, ρ, σ, d, e, r, tx, ty, q⟩ := q
  have hu := hr.un
  unfold fIn at q
  split at q
  · rename_i ys
    obtain ⟨⟨⟨pd, dd⟩, pe, de⟩, q⟩ := q
    obtain ⟨as, r1⟩ := Dp.reads I _ x v ((tx.whole pd).dp pd) rx
    obtain ⟨bs, r2⟩ := Dp.reads I _ y u ((ty.whole pe).dp pe) ry
    exact SeqAt.in_list_data r2 r1 (by simpa [PyData.plain] using pe) pd (inroom hu dd) ⟨.bl _, H, I, rfl, q _ H r (.bl _)⟩
  · rename_i ys
    obtain ⟨⟨⟨pd, dd⟩, pe, de⟩, q⟩ := q
    obtain ⟨as, r1⟩ := Dp.reads I _ x v ((tx.whole pd).dp pd) rx
    obtain ⟨bs, r2⟩ := Dp.reads I _ y u ((ty.whole pe).dp pe) ry
    exact SeqAt.in_tuple_data r2 r1 (by simpa [PyData.plain] using pe) pd (inroom hu dd) ⟨.bl _, H, I, rfl, q _ H r (.bl _)⟩
  · rename_i i j
    exact op_in_str pins s σ0 H x y v u Q I rx ry ⟨i, j, tx.str, ty.str, q _ H r (.bl _)⟩
  · exact q.elim
theorem opD_notIn {k : Nat} (hr : Room k X.A) : OpD T X (compareOp .NotIn) (fIn true) := by
  intro pins s σ0 H x y v u Q I rx ry q
  obtain ⟨G, ρ, σ, d, e, r, tx, ty, q⟩ := q
  have hu := hr.un
  unfold fIn at q
  split at q
  · rename_i ys
    obtain ⟨⟨⟨pd, dd⟩, pe, de⟩, q⟩ := q
    obtain ⟨as, r1⟩ := Dp.reads I _ x v ((tx.whole pd).dp pd) rx
    obtain ⟨bs, r2⟩ := Dp.reads I _ y u ((ty.whole pe).dp pe) ry
    exact SeqAt.notIn_list_data r2 r1 (by simpa [PyData.plain] using pe) pd (inroom hu dd) ⟨.bl _, H, I, rfl, q _ H r (.bl _)⟩
  · rename_i ys
    obtain ⟨⟨⟨pd, dd⟩, pe, de⟩, q⟩ := q
    obtain ⟨as, r1⟩ := Dp.reads I _ x v ((tx.whole pd).dp pd) rx
    obtain ⟨bs, r2⟩ := Dp.reads I _ y u ((ty.whole pe).dp pe) ry
    exact SeqAt.notIn_tuple_data r2 r1 (by simpa [PyData.plain] using pe) pd (inroom hu dd) ⟨.bl _, H, I, rfl, q _ H r (.bl _)⟩
  · rename_i i j
    exact op_notin_str pins s σ0 H x y v u Q I rx ry ⟨i, j, tx.str, ty.str, q _ H r (.bl _)⟩
  · exact q.elim
end
end PL
set_option Elab.async false
set_option linter.all false
set_option maxRecDepth 100000
set_option maxHeartbeats 2000000
namespace PL
open PySem PySem.Spec PyProof.Rows L2
open LamX (ExtN Tabs TabS)
section
variable {T : Tb} {X : Cx} {W : WX} {pos : Pos} {e a b c : Expr} {K : PySem.W.Frag} {G : Gh} {ρ : En} {σ : L2.St} {H H' : Hp}
def wT (w : PW) : PWB := fun ρ Q E => w ρ (fun d => match d with | .bool k => Q k | _ => False) E
theorem mono_T {w : PW} (m : Mono w) : Mono (wT w) := fun ρ Q Q' E E' hq he h => m _ _ _ _ _ (fun d hd => by cases d <;> first | exact hq _ hd | exact hd) he h
theorem dt_val {w : PW} (h : DE T X W e w) (he : ∀ whole, isTrue e X.env whole = (do let v ← whole; standAt e.pos; holding [v] (truthy v)) := by intro _; rfl) : DT T X W e (wT w) :=
  ⟨pt_mono (pt_val h.pe he) fun σ H Q q => by
    obtain ⟨G, ρ, r, q⟩ := q
    refine ⟨G, ρ, r, h.mono _ _ _ _ _ (fun d hd v H' r' a => ?_) (fun _ z => z) q⟩
    cases a <;> first | exact ⟨_, rfl, hd H' r'⟩ | exact hd.elim, mono_T h.mono⟩
theorem dt_cmp {op : CmpOp} {f : PyData → PyData → (PyData → Prop) → Prop} {wa wb : PW} (ho : OpD T X (compareOp op) f) (mf : MonoF f) (ha : DR T X W a wa) (hb : DR T X W b wb) (hm : behindInMarks op b = false) : DT T X W (.Compare a [op] [b] pos) (wT (w2 f wa wb)) :=
  ⟨pt_mono (pt_cmpR ho ha.pe hb.pe hm) fun σ H Q q => by
    obtain ⟨G, ρ, r, q⟩ := q
    refine both (P := fun x y => f x y fun d => match d with | .bool k => ∀ H', Rep T X.K G ρ σ H' → Q k H' | _ => False) ha.mono hb.mono r (fun v u H' x y r' e tv tu p => ⟨G, ρ, σ, x, y, r', tv, tu, mf _ _ _ _ (fun d hd v H'' r'' a => ?_) p⟩) q
    cases a <;> first | exact ⟨_, rfl, hd H'' r''⟩ | exact hd.elim, mono_T (mono_2 mf ha.mono hb.mono)⟩
def wNot (w : PWB) : PWB := fun ρ Q E => w ρ (fun b => Q (!b)) E
theorem dt_not {w : PWB} (h : DT T X W a w) : DT T X W (.UnaryOp .Not a pos) (wNot w) :=
  ⟨pt_mono (pt_not h.pt) fun σ H Q q => by
    obtain ⟨G, ρ, r, q⟩ := q
    exact ⟨G, ρ, r, q⟩, fun ρ Q Q' E E' hq he q => h.mono _ _ _ _ _ (fun b hb => hq _ hb) he q⟩
structure DW (T : Tb) (X : Cx) (W : WX) (e : Expr) (w : PWB) : Prop where
  pw : L2.PW X e (liftB T X.K W w)
  mono : Mono w
def wAnd (u v : PWB) : PWB := fun ρ Q E => u ρ (fun b => if b = true then v ρ Q E else Q false) E
def wOr (u v : PWB) : PWB := fun ρ Q E => u ρ (fun b => if b = true then Q true else v ρ Q E) E
theorem mono_And {u v : PWB} (mu : Mono u) (mv : Mono v) : Mono (wAnd u v) := fun ρ Q Q' E E' hq he h => mu _ _ _ _ _ (fun b hb => by
  by_cases z : b = true
  · rw [if_pos z] at hb ⊢; exact mv _ _ _ _ _ hq he hb
  · rw [if_neg z] at hb ⊢; exact hq _ hb) he h
theorem mono_Or {u v : PWB} (mu : Mono u) (mv : Mono v) : Mono (wOr u v) := fun ρ Q Q' E E' hq he h => mu _ _ _ _ _ (fun b hb => by
  by_cases z : b = true
  · rw [if_pos z] at hb ⊢; exact hq _ hb
  · rw [if_neg z] at hb ⊢; exact mv _ _ _ _ _ hq he hb) he h
theorem pw_mono {X : Cx} {e : Expr} {t t' : TT} (h : L2.PW X e t) (i : ∀ σ H Q, t' σ H Q → t σ H Q) : L2.PW X e t' := ⟨fun whole pins s σ H Q I q => h.run whole pins s σ H Q I (i _ _ _ q)⟩
theorem dw_and1 {w : PWB} (h : DT T X W a w) : DW T X W (.BoolOp .And [a] pos) w := ⟨pw_and1 h.pt, h.mono⟩
theorem dw_or1 {w : PWB} (h : DT T X W a w) : DW T X W (.BoolOp .Or [a] pos) w := ⟨pw_or1 h.pt, h.mono⟩
theorem dw_and {u v : PWB} {rest : List Expr} (ha : DT T X W a u) (hb : DW T X W (.BoolOp .And (b :: rest) pos) v) : DW T X W (.BoolOp .And (a :: b :: rest) pos) (wAnd u v) :=
  ⟨pw_mono (pw_and ha.pt hb.pw) fun σ H Q q => by
    obtain ⟨G, ρ, r, q⟩ := q
    refine liftB_intro ha.mono r (ha.mono _ _ _ _ _ (fun k hk H1 r1 e1 => ?_) (fun _ z => z) q)
    by_cases z : k = true
    · rw [if_pos z] at hk ⊢; exact ⟨G, ρ, r1, hk⟩
    · rw [if_neg z] at hk ⊢; exact hk H1 r1, mono_And ha.mono hb.mono⟩
theorem dw_or {u v : PWB} {rest : List Expr} (ha : DT T X W a u) (hb : DW T X W (.BoolOp .Or (b :: rest) pos) v) : DW T X W (.BoolOp .Or (a :: b :: rest) pos) (wOr u v) :=
  ⟨pw_mono (pw_or ha.pt hb.pw) fun σ H Q q => by
    obtain ⟨G, ρ, r, q⟩ := q
    refine liftB_intro ha.mono r (ha.mono _ _ _ _ _ (fun k hk H1 r1 e1 => ?_) (fun _ z => z) q)
    by_cases z : k = true
    · rw [if_pos z] at hk ⊢; exact hk H1 r1
    · rw [if_neg z] at hk ⊢; exact ⟨G, ρ, r1, hk⟩, mono_Or ha.mono hb.mono⟩
theorem dt_bool {w : PWB} (h : DW T X W e w) : DT T X W e w := ⟨L2.PW.pt h.pw, h.mono⟩
def wNotV (w : PW) : PW := fun ρ Q E => w ρ (fun d => match d with | .bool k => Q (.bool (!k)) | _ => False) E
theorem de_not {w : PW} (h : DE T X W a w) : DE T X W (.UnaryOp .Not a pos) (wNotV w) :=
  ⟨pe_mono (pe_not h.pe) fun σ H Q q => by
    obtain ⟨G, ρ, r, q⟩ := q
    refine ⟨G, ρ, r, h.mono _ _ _ _ _ (fun d hd v H' r' a => ?_) (fun _ z => z) q⟩
    cases a <;> first | exact ⟨_, rfl, hd _ H' r' (.bl _)⟩ | exact hd.elim, fun ρ Q Q' E E' hq he q => h.mono _ _ _ _ _ (fun d hd => by cases d <;> first | exact hq _ hd | exact hd) he q⟩
def wAndV (u v : PW) : PW := fun ρ Q E => u ρ (fun d => match d with | .bool true => v ρ Q E | .bool false => Q (.bool false) | _ => False) E
theorem de_one {op} {w : PW} (h : DE T X W a w) : DE T X W (.BoolOp op [a] pos) w := ⟨pe_one h.pe, h.mono⟩
theorem de_and {u v : PW} {rest : List Expr} (ha : DE T X W a u) (hb : DE T X W (.BoolOp .And (b :: rest) pos) v) : DE T X W (.BoolOp .And (a :: b :: rest) pos) (wAndV u v) :=
  ⟨pe_mono (pe_and ha.pe hb.pe) fun σ H Q q => by
    obtain ⟨G, ρ, r, q⟩ := q
    refine ⟨G, ρ, r, ha.mono _ _ _ _ _ (fun d hd v H' r' a => ?_) (fun _ z => z) q⟩
    cases a with
    | bl k =>
      refine ⟨k, rfl, ?_⟩
      cases k with
      | true => exact ⟨G, ρ, r', hd⟩
      | false => exact hd _ H' r' (.bl _)
    | _ => exact hd.elim, fun ρ Q Q' E E' hq he q => ha.mono _ _ _ _ _ (fun d hd => by
      split at hd
      · exact hb.mono _ _ _ _ _ hq he hd
      · exact hq _ hd
      · exact hd.elim) he q⟩
def wIf (t : PWB) (u v : PW) : PW := fun ρ Q E => t ρ (fun k => if k = true then u ρ Q E else v ρ Q E) E
theorem de_if {t : PWB} {u v : PW} (hc : DT T X W c t) (ha : DE T X W a u) (hb : DE T X W b v) : DE T X W (.IfExp c a b pos) (wIf t u v) :=
  ⟨pe_mono (pe_ifExp hc.pt ha.pe hb.pe) fun σ H Q q => by
    obtain ⟨G, ρ, r, q⟩ := q
    refine ⟨G, ρ, r, hc.mono _ _ _ _ _ (fun k hk H' r' => ?_) (fun _ z => z) q⟩
    by_cases z : k = true
    · rw [if_pos z] at hk ⊢; exact ⟨G, ρ, r', hk⟩
    · rw [if_neg z] at hk ⊢; exact ⟨G, ρ, r', hk⟩, fun ρ Q Q' E E' hq he q => hc.mono _ _ _ _ _ (fun k hk => by
      by_cases z : k = true
      · rw [if_pos z] at hk ⊢; exact ha.mono _ _ _ _ _ hq he hk
      · rw [if_neg z] at hk ⊢; exact hb.mono _ _ _ _ _ hq he hk) he q⟩
def wCh (f g : PyData → PyData → (PyData → Prop) → Prop) (wa wb wc : PW) : PW := fun ρ Q E => wa ρ (fun x => wb ρ (fun y => f x y fun z => match z with
  | .bool true => wc ρ (fun w => g y w Q) E
  | .bool false => Q (.bool false)
  | _ => False) E) E
theorem mono_Ch {f g : PyData → PyData → (PyData → Prop) → Prop} {wa wb wc : PW} (mf : MonoF f) (mg : MonoF g) (ma : Mono wa) (mb : Mono wb) (mc : Mono wc) : Mono (wCh f g wa wb wc) := fun ρ Q Q' E E' hq he h =>
  ma _ _ _ _ _ (fun x hx => mb _ _ _ _ _ (fun y hy => mf _ _ _ _ (fun z hz => by
    split at hz
    · exact mc _ _ _ _ _ (fun w hw => mg _ _ _ _ hq hw) he hz
    · exact hq _ hz
    · exact hz.elim) hy) he hx) he h
theorem chain_core {f g : PyData → PyData → (PyData → Prop) → Prop} {op op' : CmpOp} {wa wb wc : PW} {Q : VK} {G : Gh} {ρ : En} {σ : L2.St} {H : Hp} {P : PyData → Prop} (mf : MonoF f) (ha : DE T X W a wa) (hb : DE T X W b wb) (hc : DE T X W c wc) (r : Rep T X.K G ρ σ H)
    (hP : ∀ d v H', P d → Rep T X.K G ρ σ H' → Da X.K (hide G.O H') v d → Q v H') (mg : MonoF g)
    (q : wCh f g wa wb wc ρ P (exOut T X.K W G ρ σ)) :
    tChain (fun x y H Q => ∃ (G : Gh) (ρ : En) (σ : L2.St) (d e : PyData), Rep T X.K G ρ σ H ∧ Top X.K T.dc G.O H x d ∧ Top X.K T.dc G.O H y e ∧ f d e fun r => ∀ v H', Rep T X.K G ρ σ H' → Da X.K (hide G.O H') v r → Q v H')
      (fun x y H Q => ∃ (G : Gh) (ρ : En) (σ : L2.St) (d e : PyData), Rep T X.K G ρ σ H ∧ Top X.K T.dc G.O H x d ∧ Top X.K T.dc G.O H y e ∧ g d e fun r => ∀ v H', Rep T X.K G ρ σ H' → Da X.K (hide G.O H') v r → Q v H')
      (lift T X.K W wa) (lift T X.K W wb) (lift T X.K W wc) σ H Q := by
  refine lift_intro ha.mono r (ha.mono _ _ _ _ _ (fun x hx v1 H1 r1 e1 d1 => ?_) (fun _ z => z) q)
  refine lift_intro hb.mono r1 (hb.mono _ _ _ _ _ (fun y hy v2 H2 r2 e2 d2 => ?_) (fun _ z => z) hx)
  refine ⟨⟨hide G.O H2, G.O, G.fl⟩, ρ, σ, x, y, r2.rebase, .sh (d1.ext e2), .sh d2, mf _ _ _ _ (fun z hz v H3 r3 a3 => ?_) hy⟩
  have e3 := r3.ext
  have r3' : Rep T X.K G ρ σ H3 := r3.unbase r2.ext
  cases a3 with
  | bl k =>
    refine ⟨k, rfl, ?_⟩
    cases k with
    | true =>
      refine lift_intro hc.mono r3' (hc.mono _ _ _ _ _ (fun w hw v4 H4 r4 e4 d4 => ?_) (fun _ z => z) hz)
      exact ⟨G, ρ, σ, y, w, r4, .sh ((d2.ext e3).ext e4), .sh d4, mg _ _ _ _ (fun d hd v H' r' a => hP d v H' hd r' a) hw⟩
    | false => exact hP _ _ H3 hz r3' (.bl _)
  | _ => exact hz.elim
theorem de_chain {f g : PyData → PyData → (PyData → Prop) → Prop} {op op' : CmpOp} {wa wb wc : PW} (ho : OpD T X (compareOp op) f) (ho' : OpD T X (compareOp op') g) (mf : MonoF f) (mg : MonoF g) (ha : DE T X W a wa) (hb : DE T X W b wb) (hc : DE T X W c wc)
    (hm : lastMarks [op, op'] [b, c] = false := by with_unfolding_all rfl) : DE T X W (.Compare a [op, op'] [b, c] pos) (wCh f g wa wb wc) :=
  ⟨pe_mono (pe_chain ho ho' ha.pe hb.pe hc.pe hm) fun σ H Q q => by
    obtain ⟨G, ρ, r, q⟩ := q
    exact chain_core (op := op) (op' := op') mf ha hb hc r (fun d v H' h r' a => h v H' r' a) mg q, mono_Ch mf mg ha.mono hb.mono hc.mono⟩
theorem dt_chain {f g : PyData → PyData → (PyData → Prop) → Prop} {op op' : CmpOp} {wa wb wc : PW} (ho : OpD T X (compareOp op) f) (ho' : OpD T X (compareOp op') g) (mf : MonoF f) (mg : MonoF g) (ha : DE T X W a wa) (hb : DE T X W b wb) (hc : DE T X W c wc)
    (hm : lastMarks [op, op'] [b, c] = false := by with_unfolding_all rfl) : DT T X W (.Compare a [op, op'] [b, c] pos) (wT (wCh f g wa wb wc)) :=
  ⟨pt_mono (pt_chain ho ho' ha.pe hb.pe hc.pe hm) fun σ H Q q => by
    obtain ⟨G, ρ, r, q⟩ := q
    exact chain_core (op := op) (op' := op') (Q := fun x H' => ∃ k, x = .bl k ∧ Q k H') mf ha hb hc r (fun d v H' h r' a => by cases a <;> first | exact ⟨_, rfl, h H' r'⟩ | exact h.elim) mg q, mono_T (mono_Ch mf mg ha.mono hb.mono hc.mono)⟩
def wNil : PWs := fun _ Q _ => Q []
def wCons (w : PW) (ws : PWs) : PWs := fun ρ Q E => w ρ (fun d => ws ρ (fun ds => Q (d :: ds)) E) E
theorem da_nil : DA T X W [] wNil := ⟨⟨fun p pins s σ H Q I h => by
  obtain ⟨G, ρ, r, q⟩ := h
  exact pa_nil.run p pins s σ H Q I (q [] H r .nil)⟩, fun _ _ _ _ _ hq _ h => hq _ h⟩
theorem mono_cons {w : PW} {ws : PWs} (m : Mono w) (ms : Mono ws) : Mono (wCons w ws) := fun ρ Q Q' E E' hq he h => m _ _ _ _ _ (fun d hd => ms _ _ _ _ _ (fun ds hds => hq _ hds) he hd) he h
theorem da_cons {es : List Expr} {w : PW} {ws : PWs} (ha : DE T X W e w) (hr : DA T X W es ws) (hs : starEach (e :: es) X.env = (false, eval e X.env) :: starEach es X.env := by rfl) : DA T X W (e :: es) (wCons w ws) :=
  ⟨⟨fun p pins s σ H Q I h => (pa_cons ha.pe hr.pa hs).run p pins s σ H Q I (by
    obtain ⟨G, ρ, r, q⟩ := h
    refine lift_intro ha.mono r (ha.mono _ _ _ _ _ (fun d hd v H1 r1 e1 a1 => ?_) (fun _ z => z) q)
    refine liftA_intro hr.mono r1 (hr.mono _ _ _ _ _ (fun ds hds vs H2 r2 e2 a2 => ?_) (fun _ z => z) hd)
    exact hds _ H2 r2 (.cons (a1.ext e2) a2))⟩, mono_cons ha.mono hr.mono⟩
def wTup (ws : PWs) : PW := fun ρ Q E => ws ρ (fun ds => ds.length ≤ sizeLine ∧ Q (.tuple ds)) E
def wLst (ws : PWs) : PW := fun ρ Q E => ws ρ (fun ds => ds.length ≤ sizeLine ∧ Q (.list ds)) E
theorem de_tup {es : List Expr} {ws : PWs} {k} (h : DA T X W es ws) : DE T X W (.Tuple es k pos) (wTup ws) :=
  ⟨pe_mono (pe_tup h.pa) fun σ H Q q => by
    obtain ⟨G, ρ, r, q⟩ := q
    refine ⟨G, ρ, r, h.mono _ _ _ _ _ (fun ds hds vs H' r' a => ⟨by rw [a.length]; exact hds.1, fun p hp => ?_⟩) (fun _ z => z) q⟩
    obtain ⟨r2, e2, np, hh⟩ := r'.new (o := .tup vs) hp
    exact hds.2 _ _ r2 (.tup hh (a.ext e2)), fun ρ Q Q' E E' hq he q => h.mono _ _ _ _ _ (fun ds hd => ⟨hd.1, hq _ hd.2⟩) he q⟩
theorem df_lst {es : List Expr} {ws : PWs} (h : DA T X W es ws) : DF T X W (.List es pos) (wLst ws) :=
  ⟨pe_mono (pe_lst h.pa) fun σ H Q q => by
    obtain ⟨G, ρ, r, q⟩ := q
    refine ⟨G, ρ, r, h.mono _ _ _ _ _ (fun ds hds vs H' r' a => ⟨by rw [a.length]; exact hds.1, fun p hp => ?_⟩) (fun _ z => z) q⟩
    obtain ⟨r2, na, ap, h1, h2⟩ := r'.newL hp a
    exact hds.2 p _ _ _ rfl r2 na ap h1 h2, fun ρ Q Q' E E' hq he q => h.mono _ _ _ _ _ (fun ds hd => ⟨hd.1, hq _ hd.2⟩) he q⟩
def fIx : PyData → PyData → (PyData → Prop) → Prop
  | .list xs, .int i, Q => match atI xs i with | some d => Q d | none => False
  | .tuple xs, .int i, Q => match atI xs i with | some d => Q d | none => False
  | .str z, .int i, Q => z.length ≤ sizeLine ∧ match atI z.cps.toList i with | some c => Q (.str ⟨#[c]⟩) | none => False
  | _, _, _ => False
theorem mono_ix : MonoF fIx := fun x y Q Q' hq h => by
  unfold fIx at h ⊢
  split at h
  · split at h
    · exact hq _ h
    · exact h
  · split at h
    · exact hq _ h
    · exact h
  · refine ⟨h.1, ?_⟩
    have h2 := h.2
    split at h2
    · exact hq _ h2
    · exact h2
  · exact h
theorem atI_da {vs : List V} {ds : List PyData} {i : Int} {d : PyData} (h : DaAll K H vs ds) (e : atI ds i = some d) : ∃ v, atI vs i = some v ∧ Da K H v d := by
  unfold atI at e ⊢
  rw [h.length]
  cases z : ixN ds.length i with
  | none => rw [z] at e; cases e
  | some j =>
    rw [z] at e
    obtain ⟨v, h1, h2⟩ := h.getD (i := j) e
    exact ⟨v, h1, h2⟩
theorem ixR_d : IxR X fun x y H Q => ∃ (G : Gh) (ρ : En) (σ : L2.St) (d e : PyData), Rep T X.K G ρ σ H ∧ Top X.K T.dc G.O H x d ∧ Top X.K T.dc G.O H y e ∧ fIx d e fun r => ∀ v H', Rep T X.K G ρ σ H' → Da X.K (hide G.O H') v r → Q v H' := by
  intro value slice pins s σ0 H x y v u Q I rx ry q hs
  obtain ⟨G, ρ, σ, d, e, r, tx, ty, q⟩ := q
  unfold fIx at q
  split at q
  · split at q
    · rename_i d' hd
      obtain ⟨a, xs, rfl, ha, hx⟩ := tx.da
      obtain ⟨w, h1, h2⟩ := atI_da hx hd
      exact ix_list value slice pins s σ0 H _ y v u Q I rx ry ⟨a, xs, _, w, rfl, ty.int, SqL.of ha, h1, q _ H r h2⟩ hs
    · exact q.elim
  · split at q
    · rename_i d' hd
      obtain ⟨a, xs, rfl, _, ha, hx⟩ := tx.tup
      obtain ⟨w, h1, h2⟩ := atI_da hx hd
      exact ix_tup value slice pins s σ0 H _ y v u Q I rx ry ⟨a, xs, _, w, rfl, ty.int, ha, h1, q _ H r h2⟩ hs
    · exact q.elim
  · obtain ⟨hz, q⟩ := q
    split at q
    · rename_i c' hc
      exact ix_str value slice pins s σ0 H x y v u Q I rx ry ⟨_, _, c', tx.str, ty.int, hz, hc, q _ H r (.str _)⟩ hs
    · exact q.elim
  · exact q.elim
theorem de_ix {wa wb : PW} (ha : DR T X W a wa) (hb : DR T X W b wb) (hs : PlainIx b := by intro _ _; rfl) : DE T X W (.Subscript a b pos) (w2 fIx wa wb) :=
  ⟨pe_mono (pe_ix (ixR_d (T := T)) ha.pe hb.pe hs) fun σ H Q q => by
    obtain ⟨G, ρ, r, q⟩ := q
    exact both (P := fun x y => fIx x y fun d => ∀ v H', Rep T X.K G ρ σ H' → Da X.K (hide G.O H') v d → Q v H') ha.mono hb.mono r (fun v u H' x y r' e tv tu p => ⟨G, ρ, σ, x, y, r', tv, tu, p⟩) q, mono_2 mono_ix ha.mono hb.mono⟩
end
end PL
set_option Elab.async false
set_option linter.all false
set_option maxRecDepth 100000
set_option maxHeartbeats 2000000
namespace PL
open PySem PySem.Spec PyProof.Rows L2
open LamX (ExtN Tabs TabS)
section
variable {T : Tb} {X : Cx} {W : WX} {pos p : Pos} {e a b c : Expr} {K : PySem.W.Frag} {G : Gh} {ρ : En} {σ : L2.St} {H H' : Hp}
theorem Rep.hold {v : V} {d : PyData} (r : Rep T K G ρ σ H) (t : Top K T.dc G.O H v d) : ∃ G1 : Gh, G1.O = G.O ∧ Rep T K G1 ρ σ H ∧ ∀ H', Rep T K G1 ρ σ H' → Rep T K G ρ σ H' ∧ Top K T.dc G.O H' v d ∧ ExtN (hide G.O H) (hide G.O H') := by
  by_cases own : ∃ a o, v = .ref a ∧ a ∈ G.O ∧ a ∉ T.dc ∧ H a = some o
  · obtain ⟨a, o, ev, ha, nd, ho⟩ := own
    refine ⟨⟨hide G.O H, G.O, (a, o) :: G.fl⟩, rfl, (r.rebase).fly1 (G := ⟨hide G.O H, G.O, G.fl⟩) ha ho nd, fun H' r' => ?_⟩
    obtain ⟨r2, k⟩ := r'.land
    have e := r2.ext
    exact ⟨r2.unbase r.ext, t.ext e fun b eb hb _ => by rw [ev] at eb; cases eb; rw [show H' a = some o from k, ho], e⟩
  · refine ⟨⟨hide G.O H, G.O, G.fl⟩, rfl, r.rebase, fun H' r' => ⟨r'.unbase r.ext, t.ext r'.ext fun b eb hb nd => ?_, r'.ext⟩⟩
    obtain ⟨o, ho, _⟩ := r.dom b hb
    exact absurd ⟨b, o, eb, hb, nd, ho⟩ own
theorem exOut_hold {G1 : Gh} (eO : G1.O = G.O) (h : ∀ H', Rep T K G1 ρ σ H' → Rep T K G ρ σ H') (x : Exn) (hx : exOut T K W G ρ σ x) : exOut T K W G1 ρ σ x := fun H' cls dd r' q => hx H' cls dd (h H' r') (by rw [← eO]; exact q)
abbrev PWo := En → (Option Int → Prop) → (Exn → Prop) → Prop
def wNo : PWo := fun _ Q _ => Q none
def wSo (w : PW) : PWo := fun ρ Q E => w ρ (fun d => match d with | .int i => Q (some i) | _ => False) E
structure DO (T : Tb) (X : Cx) (W : WX) (e : Option Expr) (w : PWo) : Prop where
  po : ∃ t : TO, PO X e t ∧ ∀ G ρ σ H R, Rep T X.K G ρ σ H → w ρ (fun o => ∀ H', Rep T X.K G ρ σ H' → R o H') (exOut T X.K W G ρ σ) → t σ H R
  mono : Mono w
theorem do_none : DO T X W none wNo := ⟨⟨tNoPart, po_none, fun G ρ σ H R r h => h H r⟩, fun _ _ _ _ _ hq _ h => hq _ h⟩
theorem do_some {w : PW} (h : DE T X W e w) : DO T X W (some e) (wSo w) := ⟨⟨_, po_some h.pe, fun G ρ σ H R r q => ⟨G, ρ, r, h.mono _ _ _ _ _ (fun d hd v H' r' a => by cases a <;> first | exact ⟨_, rfl, hd H' r'⟩ | exact hd.elim) (fun _ z => z) q⟩⟩,
  fun ρ Q Q' E E' hq he q => h.mono _ _ _ _ _ (fun d hd => by cases d <;> first | exact hq _ hd | exact hd) he q⟩
def cutD (xs : List PyData) (lo hi : Option Int) : List PyData := (xs.drop (HT.sIx xs.length 0 lo)).take (HT.sIx xs.length xs.length hi - HT.sIx xs.length 0 lo)
theorem cut_da {vs : List V} {ds : List PyData} (h : DaAll K H vs ds) (lo hi : Option Int) : DaAll K H (cutV vs lo hi) (cutD ds lo hi) := by
  unfold cutV cutD
  rw [h.length]
  exact (h.drop _).take _
def fSlL (x : PyData) (lo hi : Option Int) (Q : PyData → Prop) : Prop := match x with
  | .list xs => Q (.list (cutD xs lo hi))
  | _ => False
def fSlS (x : PyData) (lo hi : Option Int) (Q : PyData → Prop) : Prop := match x with
  | .tuple xs => Q (.tuple (cutD xs lo hi))
  | .str z => z.length ≤ sizeLine ∧ Q (.str (cutS z lo hi))
  | _ => False
def wSl (f : PyData → Option Int → Option Int → (PyData → Prop) → Prop) (w : PW) (wl wh : PWo) : PW := fun ρ Q E => w ρ (fun x => wl ρ (fun l => wh ρ (fun h => f x l h Q) E) E) E
theorem mono_Sl {f : PyData → Option Int → Option Int → (PyData → Prop) → Prop} {w : PW} {wl wh : PWo} (mf : ∀ x l h Q Q', (∀ d, Q d → Q' d) → f x l h Q → f x l h Q') (m : Mono w) (ml : Mono wl) (mh : Mono wh) : Mono (wSl f w wl wh) := fun ρ Q Q' E E' hq he q =>
  m _ _ _ _ _ (fun x hx => ml _ _ _ _ _ (fun l hl => mh _ _ _ _ _ (fun h hh => mf _ _ _ _ _ hq hh) he hl) he hx) he q
theorem mono_SlL : ∀ x l h Q Q', (∀ d, Q d → Q' d) → fSlL x l h Q → fSlL x l h Q' := fun x l h Q Q' hq q => by cases x <;> first | exact hq _ q | exact q
theorem mono_SlS : ∀ x l h Q Q', (∀ d, Q d → Q' d) → fSlS x l h Q → fSlS x l h Q' := fun x l h Q Q' hq q => by cases x <;> first | exact hq _ q | exact ⟨q.1, hq _ q.2⟩ | exact q
theorem sl_core {w : PW} {wl wh : PWo} {lo hi : Option Expr} {P : PyData → Option Int → Option Int → Prop} {R : V → Option Int → Option Int → Hp → Prop} {tl th : TO} (h : DR T X W e w) (ml : Mono wl) (mh : Mono wh)
    (hl : ∀ G ρ σ H R, Rep T X.K G ρ σ H → wl ρ (fun o => ∀ H', Rep T X.K G ρ σ H' → R o H') (exOut T X.K W G ρ σ) → tl σ H R) (hh : ∀ G ρ σ H R, Rep T X.K G ρ σ H → wh ρ (fun o => ∀ H', Rep T X.K G ρ σ H' → R o H') (exOut T X.K W G ρ σ) → th σ H R)
    (r : Rep T X.K G ρ σ H) (hR : ∀ v d l h H', P d l h → Rep T X.K G ρ σ H' → Top X.K T.dc G.O H' v d → R v l h H')
    (q : w ρ (fun x => wl ρ (fun l => wh ρ (fun h => P x l h) (exOut T X.K W G ρ σ)) (exOut T X.K W G ρ σ)) (exOut T X.K W G ρ σ)) :
    liftR T X.K W w σ H fun v H1 => tl σ H1 fun l H2 => th σ H2 fun u H3 => R v l u H3 := by
  refine ⟨G, ρ, r, h.mono _ _ _ _ _ (fun x hx v H1 r1 t1 => ?_) (fun _ z => z) q⟩
  obtain ⟨G1, eO, r1', keep⟩ := r1.hold t1
  refine hl G1 ρ σ H1 _ r1' (ml _ _ _ _ _ (fun l hl2 H2 r2 => ?_) (fun x hx => exOut_hold eO (fun H' z => (keep H' z).1) x hx) hx)
  refine hh G1 ρ σ H2 _ r2 (mh _ _ _ _ _ (fun u hu H3 r3 => ?_) (fun x hx => exOut_hold eO (fun H' z => (keep H' z).1) x hx) hl2)
  obtain ⟨r4, t4, _⟩ := keep H3 r3
  exact hR v x l u H3 hu r4 t4
theorem df_sl {w : PW} {wl wh : PWo} {lo hi : Option Expr} {p2 : Pos} (h : DR T X W e w) (hl : DO T X W lo wl) (hh : DO T X W hi wh) : DF T X W (.Subscript e (.Slice lo hi none p2) pos) (wSl fSlL w wl wh) := by
  obtain ⟨⟨tl, pl, ql⟩, ml⟩ := hl
  obtain ⟨⟨th, ph, qh⟩, mh⟩ := hh
  refine ⟨pe_mono (pe_slice sl_list h.pe pl ph) fun σ H Q q => ?_, mono_Sl mono_SlL h.mono ml mh⟩
  obtain ⟨G, ρ, r, q⟩ := q
  refine sl_core (lo := lo) (hi := hi) h ml mh ql qh r (fun v d l u H' hd r' t => ?_) q
  cases d with
  | list xs =>
    obtain ⟨a, vs, rfl, ha, hx⟩ := t.da
    refine ⟨a, vs, rfl, SqL.of ha, fun p hp => ?_⟩
    obtain ⟨r2, na, ap, h1, h2⟩ := r'.newL hp (cut_da hx l u)
    exact hd p _ _ _ rfl r2 na ap h1 h2
  | _ => exact hd.elim
theorem sl_d : SlR X fun x lo hi H Q => rSlA X.K x lo hi H Q ∨ rSlS x lo hi H Q := by
  intro pins s σ H x v vl vu lo hi sl Q I rx hs pl pu h
  rcases h with h | h
  · exact sl_tupA pins s σ H x v vl vu lo hi sl Q I rx hs pl pu h
  · exact sl_str pins s σ H x v vl vu lo hi sl Q I rx hs pl pu h
theorem cut_whole (xs : List PyData) (lo hi : Option Int) (h : HT.sIx xs.length 0 lo = 0 ∧ HT.sIx xs.length xs.length hi = xs.length) : cutD xs lo hi = xs := by
  unfold cutD
  rw [h.1, h.2, List.drop_zero, Nat.sub_zero, List.take_length]
theorem de_sl {w : PW} {wl wh : PWo} {lo hi : Option Expr} {p2 : Pos} (h : DR T X W e w) (hl : DO T X W lo wl) (hh : DO T X W hi wh) : DE T X W (.Subscript e (.Slice lo hi none p2) pos) (wSl fSlS w wl wh) := by
  obtain ⟨⟨tl, pl, ql⟩, ml⟩ := hl
  obtain ⟨⟨th, ph, qh⟩, mh⟩ := hh
  refine ⟨pe_mono (pe_slice sl_d h.pe pl ph) fun σ H Q q => ?_, mono_Sl mono_SlS h.mono ml mh⟩
  obtain ⟨G, ρ, r, q⟩ := q
  refine sl_core (lo := lo) (hi := hi) h ml mh ql qh r (fun v d l u H' hd r' t => ?_) q
  cases d with
  | tuple xs =>
    obtain ⟨a, vs, rfl, ha', ha, hx⟩ := t.tup
    refine .inl ⟨a, vs, rfl, ha, fun hw => hd _ H' r' ?_, fun _ p hp => ?_⟩
    · rw [cut_whole xs l u (by rw [← hx.length]; exact hw)]
      exact ha'
    · obtain ⟨r2, e2, np, h2⟩ := r'.new (o := .tup (cutV vs l u)) hp
      exact hd _ _ r2 (.tup h2 ((cut_da hx l u).ext e2))
  | str z =>
    have e := t.str
    subst e
    exact .inr ⟨z, rfl, hd.1, hd.2 _ H' r' (.str _)⟩
  | _ => exact hd.elim
def w1 (f : PyData → (PyData → Prop) → Prop) (w : PW) : PW := fun ρ Q E => w ρ (fun x => f x Q) E
def MonoF1 (f : PyData → (PyData → Prop) → Prop) : Prop := ∀ x Q Q', (∀ d, Q d → Q' d) → f x Q → f x Q'
theorem mono_1 {f : PyData → (PyData → Prop) → Prop} {w : PW} (mf : MonoF1 f) (m : Mono w) : Mono (w1 f w) := fun ρ Q Q' E E' hq he h => m _ _ _ _ _ (fun x hx => mf _ _ _ hq hx) he h
def CallD (T : Tb) (X : Cx) (g : Value) (f : PyData → (PyData → Prop) → Prop) : Prop :=
  CallR X g fun xs H Q => ∃ (x : V) (G : Gh) (ρ : En) (σ : L2.St) (d : PyData), xs = [x] ∧ Rep T X.K G ρ σ H ∧ Top X.K T.dc G.O H x d ∧ f d fun r => ∀ v H', Rep T X.K G ρ σ H' → Da X.K (hide G.O H') v r → Q v H'
def CallF (T : Tb) (X : Cx) (g : Value) (f : PyData → (PyData → Prop) → Prop) : Prop :=
  CallR X g fun xs H Q => ∃ (x : V) (G : Gh) (ρ : En) (σ : L2.St) (d : PyData), xs = [x] ∧ Rep T X.K G ρ σ H ∧ Top X.K T.dc G.O H x d ∧ f d fun r => ∀ a vs ds H', r = .list ds → Rep T X.K ⟨G.Hb, a :: G.O, G.fl⟩ ρ σ H' → a ∉ G.O → Apt ρ σ a → H' a = some (.lst vs) → DaAll X.K (hide (a :: G.O) H') vs ds → Q (.ref a) H'
theorem one_core {w : PW} {f : PyData → (PyData → Prop) → Prop} {Q : VK} {P : PyData → Prop} {R : List V → Hp → Prop} (h : DR T X W e w) (r : Rep T X.K G ρ σ H) (q : w ρ (fun d => f d P) (exOut T X.K W G ρ σ))
    (hR : ∀ v d H', f d P → Rep T X.K G ρ σ H' → Top X.K T.dc G.O H' v d → R [v] H') : tCons (liftR T X.K W w) tNil σ H R :=
  ⟨G, ρ, r, h.mono _ _ _ _ _ (fun d hd v H' r' t => hR v d H' hd r' t) (fun _ z => z) q⟩
theorem de_callB {x : Str} {id : String} {f : PyData → (PyData → Prop) → Prop} {w : PW} (hc : CallD T X (.builtin id) f) (mf : MonoF1 f) (hg : Gl X x) (hm : X.mg x = none) (hv : bootBuiltins x = some (.builtin id)) (h : DR T X W e w)
    (hn : x ≠ "__name__" := by decide) (hdb : (x == ("__debug__" : Str)) = false := by decide) (he : starEach [e] X.env = (false, eval e X.env) :: starEach [] X.env := by rfl) :
    DE T X W (.Call (.Name x p) [e] [] pos) (w1 f w) :=
  ⟨pe_mono (pe_callB hc hg hm hv (pa_cons h.pe pa_nil he) hn hdb he rfl) fun σ H Q q => by
    obtain ⟨G, ρ, r, q⟩ := q
    exact one_core (Q := Q) h r q fun v d H' hd r' t => ⟨v, G, ρ, σ, d, rfl, r', t, hd⟩, mono_1 mf h.mono⟩
theorem de_callTy {x : Str} {id : String} {f : PyData → (PyData → Prop) → Prop} {w : PW} (hc : CallD T X (.type id) f) (mf : MonoF1 f) (hg : Gl X x) (hm : X.mg x = none) (hv : bootBuiltins x = some (.type id)) (h : DR T X W e w)
    (hn : x ≠ "__name__" := by decide) (hdb : (x == ("__debug__" : Str)) = false := by decide) (he : starEach [e] X.env = (false, eval e X.env) :: starEach [] X.env := by rfl) :
    DE T X W (.Call (.Name x p) [e] [] pos) (w1 f w) :=
  ⟨pe_mono (pe_callTy hc hg hm hv (pa_cons h.pe pa_nil he) hn hdb he rfl) fun σ H Q q => by
    obtain ⟨G, ρ, r, q⟩ := q
    exact one_core (Q := Q) h r q fun v d H' hd r' t => ⟨v, G, ρ, σ, d, rfl, r', t, hd⟩, mono_1 mf h.mono⟩
theorem df_callTy {x : Str} {id : String} {f : PyData → (PyData → Prop) → Prop} {w : PW} (hc : CallF T X (.type id) f) (mf : MonoF1 f) (hg : Gl X x) (hm : X.mg x = none) (hv : bootBuiltins x = some (.type id)) (h : DR T X W e w)
    (hn : x ≠ "__name__" := by decide) (hdb : (x == ("__debug__" : Str)) = false := by decide) (he : starEach [e] X.env = (false, eval e X.env) :: starEach [] X.env := by rfl) :
    DF T X W (.Call (.Name x p) [e] [] pos) (w1 f w) :=
  ⟨pe_mono (pe_callTy hc hg hm hv (pa_cons h.pe pa_nil he) hn hdb he rfl) fun σ H Q q => by
    obtain ⟨G, ρ, r, q⟩ := q
    exact one_core (Q := Q) h r q fun v d H' hd r' t => ⟨v, G, ρ, σ, d, rfl, r', t, hd⟩, mono_1 mf h.mono⟩
/-- len -/
def fLen : PyData → (PyData → Prop) → Prop
  | .list xs, Q => Q (.int xs.length)
  | .tuple xs, Q => Q (.int xs.length)
  | .str z, Q => z.length ≤ sizeLine ∧ Q (.int z.length)
  | _, _ => False
theorem mono_len : MonoF1 fLen := fun x Q Q' hq h => by cases x <;> first | exact hq _ h | exact ⟨h.1, hq _ h.2⟩ | exact h
theorem cd_len : CallD T X (.builtin "len") fLen := by
  intro pins s σ0 H xs us Q I rx q
  obtain ⟨x, G, ρ, σ, d, rfl, r, t, q⟩ := q
  cases d with
  | list ds =>
    obtain ⟨a, vs, rfl, ha, hx⟩ := t.da
    exact call_len pins s σ0 H _ us Q I rx ⟨_, vs.length, rfl, .inl ⟨vs, SqL.of ha, rfl⟩, by rw [hx.length]; exact q _ H r (.int _)⟩
  | tuple ds =>
    obtain ⟨a, vs, rfl, _, ha, hx⟩ := t.tup
    exact call_len pins s σ0 H _ us Q I rx ⟨_, vs.length, rfl, .inr ⟨vs, ha, rfl⟩, by rw [hx.length]; exact q _ H r (.int _)⟩
  | str z =>
    have e := t.str
    subst e
    exact call_len pins s σ0 H _ us Q I rx ⟨_, z.length, rfl, ⟨q.1, rfl⟩, q.2 _ H r (.int _)⟩
  | _ => exact q.elim
/-- tuple(xs) -/
def fTuple : PyData → (PyData → Prop) → Prop
  | .list xs, Q => Q (.tuple xs)
  | .tuple xs, Q => Q (.tuple xs)
  | _, _ => False
theorem mono_tuple : MonoF1 fTuple := fun x Q Q' hq h => by cases x <;> first | exact hq _ h | exact h
theorem cd_tuple : CallD T X (.type "tuple") fTuple := by
  intro pins s σ0 H xs us Q I rx q
  obtain ⟨x, G, ρ, σ, d, rfl, r, t, q⟩ := q
  cases d with
  | list ds =>
    obtain ⟨a, vs, rfl, ha, hx⟩ := t.da
    refine call_tuple_of pins s σ0 H _ us Q I rx ⟨a, vs, rfl, .inl ⟨SqL.of ha, fun p hp => ?_⟩⟩
    obtain ⟨r2, e2, np, h2⟩ := r.new (o := .tup vs) hp
    exact q _ _ r2 (.tup h2 (hx.ext e2))
  | tuple ds =>
    obtain ⟨a, vs, rfl, ha', ha, hx⟩ := t.tup
    exact call_tuple_of pins s σ0 H _ us Q I rx ⟨a, vs, rfl, .inr ⟨ha, q _ H r ha'⟩⟩
  | _ => exact q.elim
/-- list(xs), new -/
def fList : PyData → (PyData → Prop) → Prop
  | .list xs, Q => Q (.list xs)
  | .tuple xs, Q => Q (.list xs)
  | _, _ => False
theorem mono_list : MonoF1 fList := fun x Q Q' hq h => by cases x <;> first | exact hq _ h | exact h
theorem cf_list : CallF T X (.type "list") fList := by
  intro pins s σ0 H xs us Q I rx q
  obtain ⟨x, G, ρ, σ, d, rfl, r, t, q⟩ := q
  cases d with
  | list ds =>
    obtain ⟨a, vs, rfl, ha, hx⟩ := t.da
    refine call_list_of pins s σ0 H _ us Q I rx ⟨a, vs, rfl, .inl (SqL.of ha), fun p hp => ?_⟩
    obtain ⟨r2, na, ap, h1, h2⟩ := r.newL hp hx
    exact q p _ _ _ rfl r2 na ap h1 h2
  | tuple ds =>
    obtain ⟨a, vs, rfl, ha', ha, hx⟩ := t.tup
    refine call_list_of pins s σ0 H _ us Q I rx ⟨a, vs, rfl, .inr ha, fun p hp => ?_⟩
    obtain ⟨r2, na, ap, h1, h2⟩ := r.newL hp hx
    exact q p _ _ _ rfl r2 na ap h1 h2
  | _ => exact q.elim
/-- int(n), int(flag); str(n); abs(n) -/
def fInt : PyData → (PyData → Prop) → Prop
  | .int i, Q => Q (.int i)
  | .bool k, Q => Q (.int (if k then 1 else 0))
  | _, _ => False
theorem mono_int : MonoF1 fInt := fun x Q Q' hq h => by cases x <;> first | exact hq _ h | exact h
theorem cd_int : CallD T X (.type "int") fInt := by
  intro pins s σ0 H xs us Q I rx q
  obtain ⟨x, G, ρ, σ, d, rfl, r, t, q⟩ := q
  cases d with
  | int i => have e := t.int; subst e; exact call_int1 pins s σ0 H _ us Q I rx (.inl ⟨i, rfl, q _ H r (.int _)⟩)
  | bool i => have e := t.bl; subst e; exact call_int1 pins s σ0 H _ us Q I rx (.inr ⟨i, rfl, q _ H r (.int _)⟩)
  | _ => exact q.elim
def fAbs : PyData → (PyData → Prop) → Prop
  | .int i, Q => Q (.int (if i < 0 then -i else i))
  | _, _ => False
theorem mono_abs : MonoF1 fAbs := fun x Q Q' hq h => by cases x <;> first | exact hq _ h | exact h
theorem cd_abs : CallD T X (.builtin "abs") fAbs := by
  intro pins s σ0 H xs us Q I rx q
  obtain ⟨x, G, ρ, σ, d, rfl, r, t, q⟩ := q
  cases d with
  | int i => have e := t.int; subst e; exact call_abs pins s σ0 H _ us Q I rx ⟨i, rfl, q _ H r (.int _)⟩
  | _ => exact q.elim
end
end PL
set_option Elab.async false
set_option linter.all false
set_option maxRecDepth 100000
set_option maxHeartbeats 2000000
namespace PL
open PySem PySem.Spec PyProof.Rows L2
open LamX (ExtN Tabs TabS)
section
variable {T : Tb} {X : Cx} {W : WX} {pos p apos : Pos} {e a b c o : Expr} {K : PySem.W.Frag} {G : Gh} {ρ : En} {σ : L2.St} {H H' : Hp}
def wA (f : List PyData → (PyData → Prop) → Prop) (ws : PWs) : PW := fun ρ Q E => ws ρ (fun ds => f ds Q) E
def MonoFA (f : List PyData → (PyData → Prop) → Prop) : Prop := ∀ x Q Q', (∀ d, Q d → Q' d) → f x Q → f x Q'
theorem mono_A {f : List PyData → (PyData → Prop) → Prop} {w : PWs} (mf : MonoFA f) (m : Mono w) : Mono (wA f w) := fun ρ Q Q' E E' hq he h => m _ _ _ _ _ (fun x hx => mf _ _ _ hq hx) he h
def CallDA (T : Tb) (X : Cx) (g : Value) (f : List PyData → (PyData → Prop) → Prop) : Prop :=
  CallR X g fun xs H Q => ∃ (G : Gh) (ρ : En) (σ : L2.St) (ds : List PyData), Rep T X.K G ρ σ H ∧ DaAll X.K (hide G.O H) xs ds ∧ f ds fun r => ∀ v H', Rep T X.K G ρ σ H' → Da X.K (hide G.O H') v r → Q v H'
theorem de_callBA {x : Str} {id : String} {f : List PyData → (PyData → Prop) → Prop} {ws : PWs} {es : List Expr} (hc : CallDA T X (.builtin id) f) (mf : MonoFA f) (hg : Gl X x) (hm : X.mg x = none) (hv : bootBuiltins x = some (.builtin id)) (h : DA T X W (e :: es) ws)
    (hn : x ≠ "__name__" := by decide) (hdb : (x == ("__debug__" : Str)) = false := by decide) (he : starEach (e :: es) X.env = (false, eval e X.env) :: starEach es X.env := by rfl) (hpl : (backTo pos (starEach es X.env)).any (·.1) = false := by rfl) :
    DE T X W (.Call (.Name x p) (e :: es) [] pos) (wA f ws) :=
  ⟨pe_mono (pe_callB hc hg hm hv h.pa hn hdb he hpl) fun σ H Q q => by
    obtain ⟨G, ρ, r, q⟩ := q
    exact ⟨G, ρ, r, h.mono _ _ _ _ _ (fun ds hd vs H' r' a => ⟨G, ρ, σ, ds, r', a, hd⟩) (fun _ z => z) q⟩, mono_A mf h.mono⟩
def fMin2 : List PyData → (PyData → Prop) → Prop
  | [.int i, .int j], Q => Q (.int (if j < i then j else i))
  | _, _ => False
theorem mono_min2 : MonoFA fMin2 := fun x Q Q' hq h => by
  unfold fMin2 at h ⊢
  split at h
  · exact hq _ h
  · exact h
theorem cda_min2 (hc : X.calm = true) : CallDA T X (.builtin "min") fMin2 := by
  intro pins s σ0 H xs us Q I rx q
  obtain ⟨G, ρ, σ, ds, r, a, q⟩ := q
  unfold fMin2 at q
  split at q
  · cases a with
    | cons h1 a => cases a with
      | cons h2 a =>
        cases a
        cases h1
        cases h2
        exact call_min2 hc pins s σ0 H _ us Q I rx ⟨_, _, rfl, q _ H r (.int _)⟩
  · exact q.elim
end
end PL
set_option Elab.async false
set_option linter.all false
set_option maxRecDepth 100000
set_option maxHeartbeats 2000000
namespace PL
open PySem PySem.Spec PyProof.Rows L2
open LamX (ExtN Tabs TabS)
abbrev W0 : WX := fun _ _ _ _ => False
abbrev GD := PyData → En → (En → Prop) → Prop
abbrev GDs := List PyData → En → (En → Prop) → Prop
def liftG (T : Tb) (K : PySem.W.Frag) (sl : List Nat) (g : GD) : TG := fun v σ H Q => ∃ G ρ d, Rep T K G ρ σ H ∧ Da K (hide G.O H) v d ∧ g d ρ fun ρ' => ∀ σ', Rep T K G ρ' σ' H → (∀ vs, (∀ i ∈ sl, i ∈ vs) → wipe σ' vs = wipe σ vs) → Q σ' H
def liftGs (T : Tb) (K : PySem.W.Frag) (sl : List Nat) (g : GDs) : TGs := fun v σ H Q => ∃ G ρ d, Rep T K G ρ σ H ∧ DaAll K (hide G.O H) v d ∧ g d ρ fun ρ' => ∀ σ', Rep T K G ρ' σ' H → (∀ vs, (∀ i ∈ sl, i ∈ vs) → wipe σ' vs = wipe σ vs) → Q σ' H
def Off (sl : List Nat) (ρ ρ' : En) : Prop := ∀ i, i ∉ sl → ρ'[i]? = ρ[i]?
def Shd (sl : List Nat) (ρ : En) : Prop := ∀ i ∈ sl, ∀ s, ρ[i]? = some s → s.owned = false
structure DG (T : Tb) (X : Cx) (sl : List Nat) (e : Expr) (g : GD) : Prop where
  pg : PG X e (liftG T X.K sl g)
  mono : ∀ d ρ Q Q', (∀ r, Q r → Q' r) → g d ρ Q → g d ρ Q'
  keep : ∀ d ρ Q, g d ρ Q → g d ρ fun ρ' => Q ρ' ∧ Off sl ρ ρ' ∧ Shd sl ρ'
structure DGs (T : Tb) (X : Cx) (sl : List Nat) (es : List Expr) (g : GDs) : Prop where
  pg : PGs X es (liftGs T X.K sl g)
  mono : ∀ d ρ Q Q', (∀ r, Q r → Q' r) → g d ρ Q → g d ρ Q'
  keep : ∀ d ρ Q, g d ρ Q → g d ρ fun ρ' => Q ρ' ∧ Off sl ρ ρ' ∧ Shd sl ρ'
theorem wipe_set {σ : L2.St} {i : Nat} {x : Option V} : ∀ {vs : List Nat}, i ∈ vs → wipe (σ.set i x) vs = wipe σ vs
  | [], h => by cases h
  | v :: vs, h => by
    show (wipe (σ.set i x) vs).set v none = (wipe σ vs).set v none
    by_cases hi : i ∈ vs
    · rw [wipe_set hi]
    · have e : i = v := (List.mem_cons.mp h).elim id fun z => absurd z hi
      subst e
      have key : ∀ {us : List Nat} {τ : L2.St}, i ∉ us → (wipe (τ.set i x) us) = (wipe τ us).set i x := fun {us} => by
        induction us with
        | nil => intro τ _; rfl
        | cons u r ih =>
          intro τ hn
          show (wipe (τ.set i x) r).set u none = ((wipe τ r).set u none).set i x
          rw [ih fun z => hn (List.mem_cons_of_mem _ z), List.set_comm _ _ (fun z => hn (by rw [z]; exact List.mem_cons_self))]
      rw [key hi, List.set_set]
theorem wipe_get {σ : L2.St} {i : Nat} : ∀ {vs : List Nat}, i ∉ vs → (wipe σ vs)[i]? = σ[i]?
  | [], _ => rfl
  | v :: vs, h => by
    show ((wipe σ vs).set v none)[i]? = _
    rw [List.getElem?_set_ne (fun z => h (by rw [z]; exact List.mem_cons_self)), wipe_get fun z => h (List.mem_cons_of_mem _ z)]
theorem wipe_in {σ : L2.St} {i : Nat} (hi : i < σ.length) : ∀ {vs : List Nat}, i ∈ vs → (wipe σ vs)[i]? = some none
  | [], h => by cases h
  | v :: vs, h => by
    show ((wipe σ vs).set v none)[i]? = _
    by_cases e : v = i
    · subst e
      rw [List.getElem?_set_self (by rw [wipe_length]; exact hi)]
    · rw [List.getElem?_set_ne e]
      exact wipe_in hi ((List.mem_cons.mp h).elim (fun z => absurd z.symm e) id)
def wipeE (ρ : En) : List Nat → En
  | [] => ρ
  | v :: vs => (wipeE ρ vs).set v .un
theorem wipeE_length (ρ : En) : ∀ vs, (wipeE ρ vs).length = ρ.length
  | [] => rfl
  | v :: vs => by
    show ((wipeE ρ vs).set v .un).length = _
    rw [List.length_set, wipeE_length ρ vs]
theorem wipeE_get {ρ : En} {i : Nat} : ∀ {vs : List Nat}, i ∉ vs → (wipeE ρ vs)[i]? = ρ[i]?
  | [], _ => rfl
  | v :: vs, h => by
    show ((wipeE ρ vs).set v .un)[i]? = _
    rw [List.getElem?_set_ne (fun z => h (by rw [z]; exact List.mem_cons_self)), wipeE_get fun z => h (List.mem_cons_of_mem _ z)]
theorem wipeE_in {ρ : En} {i : Nat} {s : Sl} : ∀ {vs : List Nat}, i ∈ vs → (wipeE ρ vs)[i]? = some s → s = .un
  | [], h, _ => by cases h
  | v :: vs, h, e => by
    have e : ((wipeE ρ vs).set v .un)[i]? = some s := e
    by_cases z : v = i
    · subst z
      by_cases hl : v < (wipeE ρ vs).length
      · rw [List.getElem?_set_self hl] at e
        exact (Option.some.inj e).symm
      · rw [List.getElem?_eq_none (by rw [List.length_set]; omega)] at e
        cases e
    · rw [List.getElem?_set_ne z] at e
      exact wipeE_in ((List.mem_cons.mp h).elim (fun y => absurd y.symm z) id) e
section
variable {T : Tb} {X : Cx} {W : WX} {pos p : Pos} {e a b c : Expr} {K : PySem.W.Frag} {G : Gh} {ρ ρ' : En} {σ σ' : L2.St} {H H' : Hp}
/-- a slot is set to a value -/
theorem Rep.setSh (r : Rep T K G ρ σ H) {i : Nat} {v : V} {d : PyData} (h : Da K (hide G.O H) v d) : Rep T K G (ρ.set i (.sh d)) (σ.set i (some v)) H where
  len := by rw [List.length_set, List.length_set]; exact r.len
  slot j s hs := by
    by_cases e : i = j
    · subst e
      have hl : i < ρ.length := by
        by_cases z : i < ρ.length
        · exact z
        · rw [List.getElem?_eq_none (by rw [List.length_set]; omega)] at hs; cases hs
      rw [List.getElem?_set_self hl] at hs
      cases hs
      exact ⟨some v, List.getElem?_set_self (by rw [← r.len]; exact hl), v, rfl, h⟩
    · rw [List.getElem?_set_ne e] at hs ⊢
      exact r.slot j s hs
  sep j k s t a hjk hj hk hs ht e1 e2 := by
    have nj : ∀ {l : Nat} {u : Sl}, (ρ.set i (.sh d))[l]? = some u → u.owned = true → l ≠ i := fun {l u} hl hu z => by
      subst z
      by_cases hz : l < ρ.length
      · rw [List.getElem?_set_self hz] at hl; cases hl; cases hu
      · rw [List.getElem?_eq_none (by rw [List.length_set]; omega)] at hl; cases hl
    have n1 := nj hj hs
    have n2 := nj hk ht
    rw [List.getElem?_set_ne (Ne.symm n1)] at hj e1
    rw [List.getElem?_set_ne (Ne.symm n2)] at hk e2
    exact r.sep j k s t a hjk hj hk hs ht e1 e2
  tab := r.tab
  ext := r.ext
  dom := r.dom
  fly := r.fly
  dcs := r.dcs
def gNameD (i : Nat) : GD := fun d ρ Q => Q (ρ.set i (.sh d))
theorem dg_name (i : Nat) (p : PG X e (gName i)) : DG T X [i] e (gNameD i) := ⟨⟨fun pins s σ H v u Q I rv h => p.run pins s σ H v u Q I rv (by
    obtain ⟨G, ρ, d, r, a, q⟩ := h
    exact q _ (r.setSh a) fun vs hv => wipe_set (hv i (List.mem_singleton.mpr rfl)))⟩, fun d ρ Q Q' hq h => hq _ h,
  fun d ρ Q h => ⟨h, fun j hj => List.getElem?_set_ne (fun z => hj (by rw [z]; exact List.mem_singleton.mpr rfl)), fun j hj s hs => by
    rw [List.mem_singleton.mp hj] at hs
    by_cases hl : i < ρ.length
    · rw [List.getElem?_set_self hl] at hs; cases hs; rfl
    · rw [List.getElem?_eq_none (by rw [List.length_set]; omega)] at hs; cases hs⟩⟩
def gNilD : GDs := fun ds ρ Q => ds = [] ∧ Q ρ
def gConsD (g : GD) (gs : GDs) : GDs := fun ds ρ Q => match ds with
  | d :: r => g d ρ fun ρ' => gs r ρ' Q
  | [] => False
theorem dgs_nil : DGs T X [] [] gNilD := ⟨⟨fun pins s σ H v u Q I rv h => pgs_nil.run pins s σ H v u Q I rv (by
    obtain ⟨G, ρ, d, r, a, rfl, q⟩ := h
    cases a
    exact ⟨rfl, q σ r fun _ _ => rfl⟩)⟩, fun d ρ Q Q' hq h => ⟨h.1, hq _ h.2⟩, fun d ρ Q h => ⟨h.1, h.2, fun _ _ => rfl, fun i hi => by cases hi⟩⟩
theorem dgs_cons {es : List Expr} {sl sls : List Nat} {g : GD} {gs : GDs} (h1 : DG T X sl e g) (h2 : DGs T X sls es gs)
    (hs : (assignEach (e :: es) X.env).map (·.2) = assign e X.env :: (assignEach es X.env).map (·.2) := by rfl) : DGs T X (sl ++ sls) (e :: es) (gConsD g gs) :=
  ⟨⟨fun pins s σ H v u Q I rv h => (pgs_cons h1.pg h2.pg hs).run pins s σ H v u Q I rv (by
    obtain ⟨G, ρ, ds, r, a, q⟩ := h
    cases a with
    | nil => exact q.elim
    | cons a1 a2 =>
      refine ⟨_, _, rfl, G, ρ, _, r, a1, h1.mono _ _ _ _ (fun ρ' q' σ' r' w' => ?_) q⟩
      exact ⟨G, ρ', _, r', a2, h2.mono _ _ _ _ (fun ρ'' q'' σ'' r'' w'' => q'' σ'' r'' fun vs hv => (w'' vs fun i hi => hv i (List.mem_append_right _ hi)).trans (w' vs fun i hi => hv i (List.mem_append_left _ hi))) q'⟩)⟩,
   fun ds ρ Q Q' hq h => by
    cases ds with
    | nil => exact h
    | cons d r => exact h1.mono _ _ _ _ (fun ρ' q' => h2.mono _ _ _ _ hq q') h,
   fun ds ρ Q h => by
    cases ds with
    | nil => exact h.elim
    | cons d r =>
      refine h1.mono _ _ _ _ (fun ρ' q' => ?_) (h1.keep _ _ _ h)
      refine h2.mono _ _ _ _ (fun ρ'' q'' => ⟨q''.1, fun i hi => (q''.2.1 i fun z => hi (List.mem_append_right _ z)).trans (q'.2.1 i fun z => hi (List.mem_append_left _ z)), fun i hi s hs => ?_⟩) (h2.keep _ _ _ q'.1)
      by_cases z : i ∈ sls
      · exact q''.2.2 i z s hs
      · rw [q''.2.1 i z] at hs
        exact q'.2.2 i ((List.mem_append.mp hi).resolve_right z) s hs⟩
def gTupD (n : Nat) (gs : GDs) : GD := fun d ρ Q => match d with
  | .tuple ds => ds.length = n ∧ gs ds ρ Q
  | _ => False
theorem dg_tup {es : List Expr} {k n : Nat} {sl : List Nat} {gs : GDs} (hc : X.calm = true) (h : DGs T X sl es gs) (hn : (assignEach es X.env).length = n := by rfl) (hst : (assignEach es X.env).findIdx? (·.1) = none := by rfl) : DG T X sl (.Tuple es k pos) (gTupD n gs) :=
  ⟨⟨fun pins s σ H v u Q I rv q => (pg_tup hc h.pg hn hst).run pins s σ H v u Q I rv (by
    obtain ⟨G, ρ, d, r, a, q⟩ := q
    cases d with
    | tuple ds =>
      obtain ⟨t, xs, rfl, ht', ht, hx⟩ := (Top.sh (D0 := []) a).tup
      exact ⟨t, xs, rfl, ht, by rw [hx.length]; exact q.1, G, ρ, ds, r, hx, q.2⟩
    | _ => exact q.elim)⟩,
   fun d ρ Q Q' hq q => by cases d <;> first | exact ⟨q.1, h.mono _ _ _ _ hq q.2⟩ | exact q,
   fun d ρ Q q => by cases d <;> first | exact ⟨q.1, h.keep _ _ _ q.2⟩ | exact q.elim⟩
/-- J hands out ds while what stood in B stands -/
def WkJ (K : PySem.W.Frag) (B : Hp) (J : It) (ds : List PyData) : Prop := ∀ (O : List Addr) (H : Hp), ExtN B (hide O H) → (∀ a ∈ O, H a ≠ none) →
  (∀ (i : Nat) (d : PyData), ds[i]? = some d → J.go i H ∧ ∀ x H3, J.yld i H x H3 → (∀ b o, H b = some o → H3 b = some o) ∧ Da K (hide O H3) x d) ∧ ∀ i : Nat, ds.length ≤ i → J.stop i H
def liftI (T : Tb) (K : PySem.W.Frag) (W : WX) (w : PWs) : TI := fun σ H R => ∃ G ρ, Rep T K G ρ σ H ∧ w ρ (fun ds => ∀ J H', Rep T K G ρ σ H' → WkJ K (hide G.O H') J ds → R J H') (exOut T K W G ρ σ)
structure DI (T : Tb) (X : Cx) (W : WX) (tg iter : Expr) (w : PWs) : Prop where
  pi : PI X tg iter (liftI T X.K W w)
  mono : Mono w
theorem pi_mono {tg iter : Expr} {t t' : TI} (h : PI X tg iter t) (i : ∀ σ H Q, t' σ H Q → t σ H Q) : PI X tg iter t' := ⟨fun pins s σ H Q I q => h.run pins s σ H Q I (i _ _ _ q)⟩
theorem wk_list {a : Addr} {vs : List V} {ds : List PyData} {B : Hp} (h : B a = some (.lst vs)) (hx : DaAll K B vs ds) : WkJ K B (Itl K a) ds := fun O H e dm => by
  have ha : hide O H a = some (.lst vs) := e _ _ h fun ps z => by cases z
  have ha2 := (hide_some ha).2
  refine ⟨fun i d hd => ?_, fun i hi => ⟨vs, SqL.of ha2, by rw [hx.length]; exact hi⟩⟩
  obtain ⟨v, h1, h2⟩ := hx.getD hd
  exact ⟨⟨vs, v, SqL.of ha2, h1⟩, fun x H3 hy => by
    obtain ⟨rfl, q⟩ := hy
    have := q vs (SqL.of ha2)
    rw [h1] at this
    cases this
    exact ⟨fun _ _ e => e, h2.ext e⟩⟩
theorem wk_tup {a : Addr} {vs : List V} {ds : List PyData} {B : Hp} (h : SqT K B a vs) (hx : DaAll K B vs ds) : WkJ K B (Itt K a) ds := fun O H e dm => by
  have ha2 : SqT K H a vs := sqT_whole (sqT_ext e h)
  refine ⟨fun i d hd => ?_, fun i hi => ⟨vs, ha2, by rw [hx.length]; exact hi⟩⟩
  obtain ⟨v, h1, h2⟩ := hx.getD hd
  exact ⟨⟨vs, v, ha2, h1⟩, fun x H3 hy => by
    obtain ⟨rfl, q⟩ := hy
    have := q vs ha2
    rw [h1] at this
    cases this
    exact ⟨fun _ _ e => e, h2.ext e⟩⟩
def rangeD (lo : Int) (n : Nat) : List PyData := (List.range n).map fun i => .int (lo + (i : Nat))
theorem wk_range {lo : Int} {n : Nat} {B : Hp} : WkJ K B (Itr lo n) (rangeD lo n) := fun O H e dm => by
  have hl : (rangeD lo n).length = n := by unfold rangeD; simp
  refine ⟨fun i d hd => ?_, fun i hi => by rw [hl] at hi; exact hi⟩
  have hi : i < n := by
    have := (List.getElem?_eq_some_iff.mp hd).1
    rw [hl] at this; exact this
  have ed : d = .int (lo + (i : Nat)) := by
    unfold rangeD at hd
    rw [List.getElem?_map, List.getElem?_range hi] at hd
    exact (Option.some.inj hd).symm
  subst ed
  exact ⟨hi, fun x H3 hy => by
    obtain ⟨rfl, rfl⟩ := hy
    exact ⟨fun _ _ e => e, .int _⟩⟩
def wItL (w : PW) : PWs := fun ρ Q E => w ρ (fun d => match d with | .list ds => Q ds | _ => False) E
def wItT (w : PW) : PWs := fun ρ Q E => w ρ (fun d => match d with | .tuple ds => Q ds | _ => False) E
theorem di_list {tg : Expr} {w : PW} (h : DE T X W e w) : DI T X W tg e (wItL w) := ⟨pi_mono (pi_list h.pe) fun σ H R q => by
    obtain ⟨G, ρ, r, q⟩ := q
    refine ⟨G, ρ, r, h.mono _ _ _ _ _ (fun d hd v H' r' a => ?_) (fun _ z => z) q⟩
    cases a with
    | lst h1 h2 => exact ⟨_, rfl, ⟨_, SqL.of (hide_some h1).2⟩, hd _ H' r' (wk_list h1 h2)⟩
    | _ => exact hd.elim, fun ρ Q Q' E E' hq he q => h.mono _ _ _ _ _ (fun d hd => by cases d <;> first | exact hq _ hd | exact hd) he q⟩
theorem di_tup {tg : Expr} {w : PW} (h : DE T X W e w) : DI T X W tg e (wItT w) := ⟨pi_mono (pi_tup h.pe) fun σ H R q => by
    obtain ⟨G, ρ, r, q⟩ := q
    refine ⟨G, ρ, r, h.mono _ _ _ _ _ (fun d hd v H' r' a => ?_) (fun _ z => z) q⟩
    cases a with
    | tup h1 h2 => exact ⟨_, rfl, ⟨_, SqT.of (hide_some h1).2⟩, hd _ H' r' (wk_tup (SqT.of h1) h2)⟩
    | ftup h1 _ _ h2 => exact ⟨_, rfl, ⟨_, .inl (.inr ⟨_, (hide_some h1).2⟩)⟩, hd _ H' r' (wk_tup (.inl (.inr ⟨_, h1⟩)) h2)⟩
    | _ => exact hd.elim, fun ρ Q Q' E E' hq he q => h.mono _ _ _ _ _ (fun d hd => by cases d <;> first | exact hq _ hd | exact hd) he q⟩
def wRng1 (ws : PWs) : PWs := fun ρ Q E => ws ρ (fun ds => match ds with | [.int j] => (-(2 ^ 62) ≤ j ∧ j < 2 ^ 62) ∧ Q (rangeD 0 j.toNat) | _ => False) E
theorem di_range1 {tg : Expr} {ws : PWs} (hg : Gl X "range") (hm : X.mg "range" = none) (h : DA T X W [a] ws) (hs : starEach [a] X.env = [(false, eval a X.env)] := by rfl) : DI T X W tg (.Call (.Name "range" p) [a] [] pos) (wRng1 ws) :=
  ⟨pi_mono (pi_range1 hg hm h.pa hs) fun σ H R q => by
    obtain ⟨G, ρ, r, q⟩ := q
    refine ⟨G, ρ, r, h.mono _ _ _ _ _ (fun ds hd vs H' r' a => ?_) (fun _ z => z) q⟩
    split at hd
    · cases a with
      | cons h1 a =>
        cases a
        cases h1
        exact ⟨_, rfl, hd.1.1, hd.1.2, hd.2 _ H' r' wk_range⟩
    · exact hd.elim, fun ρ Q Q' E E' hq he q => h.mono _ _ _ _ _ (fun ds hd => by
      split at hd
      · exact ⟨hd.1, hq _ hd.2⟩
      · exact hd.elim) he q⟩
end
end PL
set_option Elab.async false
set_option linter.all false
set_option maxRecDepth 100000
set_option maxHeartbeats 2000000
namespace PL
open PySem PySem.Spec PyProof.Rows L2
open LamX (ExtN Tabs TabS)
def NoOwn (vs : List Nat) (ρ : En) : Prop := ∀ i ∈ vs, ∀ s, ρ[i]? = some s → s.owned = false
section
variable {T : Tb} {X : Cx} {W : WX} {pos p : Pos} {e a b c : Expr} {K : PySem.W.Frag} {G G2 : Gh} {ρ ρ2 : En} {σ σ2 : L2.St} {H H' : Hp}
theorem Rep.wipe (r : Rep T K G ρ σ H) (vs : List Nat) : Rep T K G (wipeE ρ vs) (L2.wipe σ vs) H where
  len := by rw [wipeE_length, wipe_length]; exact r.len
  slot i s hs := by
    by_cases hi : i ∈ vs
    · have e := wipeE_in hi hs
      subst e
      have hl : i < (wipeE ρ vs).length := (List.getElem?_eq_some_iff.mp hs).1
      rw [wipeE_length, r.len] at hl
      exact ⟨none, wipe_in hl hi, trivial⟩
    · rw [wipeE_get hi] at hs
      rw [wipe_get hi]
      exact r.slot i s hs
  sep i j s t a hij hi hj hs ht e1 e2 := by
    have ni : i ∉ vs := fun z => by rw [wipeE_in z hi] at hs; cases hs
    have nj : j ∉ vs := fun z => by rw [wipeE_in z hj] at ht; cases ht
    rw [wipeE_get ni] at hi
    rw [wipeE_get nj] at hj
    rw [wipe_get ni] at e1
    rw [wipe_get nj] at e2
    exact r.sep i j s t a hij hi hj hs ht e1 e2
  tab := r.tab
  ext := r.ext
  dom := r.dom
  fly := r.fly
  dcs := r.dcs
/-- back from a block -/
theorem Rep.unwipe {vs : List Nat} (r : Rep T K G ρ σ H) (r2 : Rep T K ⟨hide G.O H, G.O, G.fl⟩ ρ2 σ2 H') (no : NoOwn vs ρ) (off : Off vs ρ ρ2) (hw : L2.wipe σ2 vs = L2.wipe σ vs) : Rep T K G ρ σ H' where
  len := r.len
  slot i s hs := by
    have e : ExtN (hide G.O H) (hide G.O H') := r2.ext
    by_cases hi : i ∈ vs
    · have ho := no i hi s hs
      obtain ⟨v, h1, h2⟩ := r.slot i s hs
      refine ⟨v, h1, ?_⟩
      cases s with
      | un => trivial
      | sh d => obtain ⟨x, h3, h4⟩ := h2; exact ⟨x, h3, h4.ext e⟩
      | sn d => obtain ⟨x, h3, h4⟩ := h2; exact ⟨x, h3, h4.ext e⟩
      | sk d => obtain ⟨x, h3, h4⟩ := h2; exact ⟨x, h3, h4.ext e⟩
      | rr d => obtain ⟨x, h3, h4⟩ := h2; exact ⟨x, h3, h4.ext e⟩
      | dice => exact h2
      | scr ns => obtain ⟨b, h3, h4⟩ := h2; exact ⟨b, h3, sqL_ext e h4⟩
      | _ => cases ho
    · rw [← off i hi] at hs
      have := r2.slot i s hs
      rw [← wipe_get (σ := σ2) hi, hw, wipe_get hi] at this
      exact this
  sep := r.sep
  tab := r2.tab
  ext := r.ext.trans r2.ext
  dom := r2.dom
  fly := r2.fly
  dcs := r2.dcs
theorem Rep.unbase' {Hb : Hp} {O : List Addr} {fl : List (Addr × HO)} (r : Rep T K ⟨Hb, O, fl⟩ ρ σ H) (Hb' : Hp) (e : ExtN Hb' Hb) : Rep T K ⟨Hb', O, fl⟩ ρ σ H := ⟨r.len, r.slot, r.sep, r.tab, e.trans r.ext, r.dom, r.fly, r.dcs⟩
def Cont (o : HO) : Prop := (∃ xs, o = .lst xs) ∨ (∃ xs, o = .dK xs) ∨ ∃ xs, o = .dT xs
theorem TOk.upd {D : Addr} {o o' : HO} (t : TOk T H) (hD : H D = some o) (c : Cont o) : TOk T (upd H D o') := by
  refine t.put hD (fun ps z => ?_) (fun oc z => ?_) fun q z => ?_
  all_goals (try unfold LamX.CodeO at z); rcases c with ⟨x, e⟩ | ⟨x, e⟩ | ⟨x, e⟩ <;> rw [e] at z <;> cases z
/-- an object of ours, in no slot, is written -/
theorem Rep.put {Hb : Hp} {O : List Addr} {fl : List (Addr × HO)} {D : Addr} {o o' : HO} (r : Rep T K ⟨Hb, O, (D, o) :: fl⟩ ρ σ H) (ap : Apt ρ σ D) (hn : ∀ q ∈ fl, q.1 ≠ D) (co : Cont o) (co' : Cont o') :
    Rep T K ⟨Hb, O, (D, o') :: fl⟩ ρ σ (upd H D o') ∧ hide O (upd H D o') = hide O H := by
  obtain ⟨hO, hD⟩ := r.fly _ List.mem_cons_self
  have eh : hide O (upd H D o') = hide O H := hide_upd hO
  have notD : ∀ (j : Nat) (s : Sl) (b : Addr), ρ[j]? = some s → s.owned = true → σ[j]? = some (some (.ref b)) → b ≠ D := fun j s b hj hs e z => by
    rw [z] at e
    exact (ap j s hj hs).1 e
  refine ⟨⟨r.len, fun j s hj => ?_, r.sep, r.tab.upd hD co, by rw [eh]; exact r.ext, fun b hb => ?_, fun q hq => ?_, fun b hb => ?_⟩, eh⟩
  · obtain ⟨u, h1, h2⟩ := r.slot j s hj
    refine ⟨u, h1, ?_⟩
    cases s with
    | un => trivial
    | sh d => obtain ⟨x, h3, h4⟩ := h2; exact ⟨x, h3, by rw [eh]; exact h4⟩
    | ol ds => obtain ⟨b, us, h3, h4, h5, h6⟩ := h2; subst h3; exact ⟨b, us, rfl, h4, by rw [upd_ne (notD j _ b hj rfl h1)]; exact h5, by rw [eh]; exact h6⟩
    | ok ds => obtain ⟨b, us, h3, h4, h5, h6, h7⟩ := h2; subst h3; exact ⟨b, us, rfl, h4, by rw [upd_ne (notD j _ b hj rfl h1)]; exact h5, h6, by rw [eh]; exact h7⟩
    | ot ds => obtain ⟨b, us, h3, h4, h5, h6, h7⟩ := h2; subst h3; exact ⟨b, us, rfl, h4, by rw [upd_ne (notD j _ b hj rfl h1)]; exact h5, h6, by rw [eh]; exact h7⟩
    | ln b _ => obtain ⟨h3, h4, hob, h5, h7⟩ := h2; subst h3; exact ⟨rfl, h4, hob, by rw [upd_ne (notD j _ b hj rfl h1)]; exact h5, by rw [eh]; exact h7⟩
    | on ds => obtain ⟨b, us, h3, h4, h5, h6, h7⟩ := h2; subst h3; exact ⟨b, us, rfl, h4, by rw [upd_ne (notD j _ b hj rfl h1)]; exact h5, h6, by rw [eh]; exact h7⟩
    | sn d => obtain ⟨x, h3, h4⟩ := h2; exact ⟨x, h3, by rw [eh]; exact h4⟩
    | sk d => obtain ⟨x, h3, h4⟩ := h2; exact ⟨x, h3, by rw [eh]; exact h4⟩
    | rr d => obtain ⟨x, h3, h4⟩ := h2; exact ⟨x, h3, by rw [eh]; exact h4⟩
    | rg A R => obtain ⟨h3, h4, h5, h6⟩ := h2; exact ⟨h3, h4, h5, by rw [eh]; exact h6.ext (ExtN.refl _) fun a ha => upd_ne fun z => (ap j _ hj rfl).2 (by rw [← z]; exact ha)⟩
    | dice => exact h2
    | scr ns => obtain ⟨b, h3, h4⟩ := h2; exact ⟨b, h3, by rw [eh]; exact h4⟩
  · by_cases z : b = D
    · rw [z, upd_same]
      exact ⟨_, rfl, by rcases co' with ⟨x, h⟩ | ⟨x, h⟩ | ⟨x, h⟩ <;> rw [h] <;> exact nt_of rfl⟩
    · rw [upd_ne z]; exact r.dom b hb
  · rcases List.mem_cons.mp hq with z | z
    · rw [z]; exact ⟨hO, upd_same⟩
    · rw [upd_ne (hn q z)]; exact r.fly q (List.mem_cons_of_mem _ z)
  · obtain ⟨h1, h2, h3⟩ := r.dcs b hb
    have nb : b ≠ D := fun z => h3 _ List.mem_cons_self z.symm
    refine ⟨h1, by rw [upd_ne nb]; exact h2, fun q hq => ?_⟩
    rcases List.mem_cons.mp hq with z | z
    · rw [z]; exact fun z => nb z.symm
    · exact h3 q (List.mem_cons_of_mem _ z)
theorem wipe_wipe (σ : L2.St) (vs : List Nat) : L2.wipe (L2.wipe σ vs) vs = L2.wipe σ vs := by
  apply List.ext_getElem?
  intro i
  by_cases hi : i ∈ vs
  · by_cases hl : i < σ.length
    · rw [wipe_in (by rw [wipe_length]; exact hl) hi, wipe_in hl hi]
    · rw [List.getElem?_eq_none (by rw [wipe_length, wipe_length]; omega), List.getElem?_eq_none (by rw [wipe_length]; omega)]
  · rw [wipe_get hi]
structure DTs (T : Tb) (X : Cx) (W : WX) (ifs : List Expr) (w : PWB) : Prop where
  pt : PTs X ifs (liftB T X.K W w)
  mono : Mono w
def wYes : PWB := fun _ Q _ => Q true
theorem pts_mono {X : Cx} {e : List Expr} {t t' : TT} (h : PTs X e t) (i : ∀ σ H Q, t' σ H Q → t σ H Q) : PTs X e t' := ⟨fun pins s σ H Q I q => h.run pins s σ H Q I (i _ _ _ q)⟩
theorem dts_nil : DTs T X W [] wYes := ⟨pts_mono pts_nil fun σ H Q q => by
  obtain ⟨G, ρ, r, q⟩ := q
  exact q H r, fun _ _ _ _ _ hq _ h => hq _ h⟩
theorem dts_one {w : PWB} (h : DT T X W e w) : DTs T X W [e] w := ⟨pts_one h.pt, h.mono⟩
def goLc (g : GD) (wt : PWB) (we : PW) (ρw : En) : List PyData → List PyData → (List PyData → Prop) → Prop
  | [], acc, Q => Q acc
  | d :: ds, acc, Q => g d ρw fun ρ2 => wt ρ2 (fun k => if k = true then we ρ2 (fun y => acc.length < sizeLine ∧ goLc g wt we ρw ds (acc ++ [y]) Q) (fun _ => False) else goLc g wt we ρw ds acc Q) (fun _ => False)
def wLc (wi : PWs) (g : GD) (wt : PWB) (we : PW) (vs : List Nat) : PW := fun ρ Q E => NoOwn vs ρ ∧ wi ρ (fun ds => goLc g wt we (wipeE ρ vs) ds [] fun acc => Q (.list acc)) E
theorem goLc_mono {g : GD} {wt : PWB} {we : PW} {ρw : En} (mg : ∀ d ρ Q Q', (∀ r, Q r → Q' r) → g d ρ Q → g d ρ Q') (mt : Mono wt) (me : Mono we) {Q Q' : List PyData → Prop} (hq : ∀ d, Q d → Q' d) : ∀ (ds acc : List PyData), goLc g wt we ρw ds acc Q → goLc g wt we ρw ds acc Q'
  | [], acc, h => hq _ h
  | d :: ds, acc, h => mg _ _ _ _ (fun ρ2 h2 => mt _ _ _ _ _ (fun k hk => by
      cases k with
      | true => exact me _ _ _ _ _ (fun y hy => ⟨hy.1, goLc_mono mg mt me hq ds _ hy.2⟩) (fun _ z => z) hk
      | false => exact goLc_mono mg mt me hq ds _ hk) (fun _ z => z) h2) h
theorem mono_Lc {wi : PWs} {g : GD} {wt : PWB} {we : PW} {vs : List Nat} (mi : Mono wi) (mg : ∀ d ρ Q Q', (∀ r, Q r → Q' r) → g d ρ Q → g d ρ Q') (mt : Mono wt) (me : Mono we) : Mono (wLc wi g wt we vs) := fun ρ Q Q' E E' hq he h =>
  ⟨h.1, mi _ _ _ _ _ (fun ds hd => goLc_mono mg mt me (fun acc ha => hq _ ha) ds [] hd) he h.2⟩
theorem lc_imp {own : List (Str × Nat)} {wi : PWs} {g : GD} {wt : PWB} {we : PW} {sl : List Nat} {Q : VK} (mi : Mono wi) (mg : ∀ d ρ Q Q', (∀ r, Q r → Q' r) → g d ρ Q → g d ρ Q') (kg : ∀ d ρ Q, g d ρ Q → g d ρ fun ρ' => Q ρ' ∧ Off sl ρ ρ' ∧ Shd sl ρ') (mt : Mono wt) (me : Mono we) (hsl : ∀ i ∈ sl, i ∈ own.map (·.2))
    (q : liftF T X.K W (wLc wi g wt we (own.map (·.2))) σ H Q) : tLc (liftI T X.K W wi) (liftG T X.K sl g) (liftB T X.K W0 wt) (lift T X.K W0 we) (own.map (·.2)) σ H Q := by
  generalize hvs : own.map (·.2) = vs at hsl q ⊢
  obtain ⟨G, ρ, r, no, q⟩ := q
  refine ⟨G, ρ, r, mi _ _ _ _ _ (fun ds hgo J H1 r1 wk D hD => ?_) (fun _ z => z) q⟩
  have nD : D ∉ G.O := fun z => by obtain ⟨o, e, _⟩ := r1.dom D z; rw [hD] at e; cases e
  refine ⟨fun i m H2 => ∃ (vsa : List V) (acc : List PyData), m = ds.length - i ∧ Rep T X.K ⟨hide G.O H1, D :: G.O, (D, .lst vsa) :: G.fl⟩ ρ σ H2 ∧ Apt ρ σ D ∧ DaAll X.K (hide (D :: G.O) H2) vsa acc ∧
    goLc g wt we (wipeE ρ vs) (ds.drop i) acc (fun acc => ∀ (a : Addr) (vs : List V) (ds : List PyData) (H' : Hp), PyData.list acc = .list ds → Rep T X.K ⟨G.Hb, a :: G.O, G.fl⟩ ρ σ H' → a ∉ G.O → Apt ρ σ a → H' a = some (.lst vs) → DaAll X.K (hide (a :: G.O) H') vs ds → Q (.ref a) H'), ?_, fun i m H2 hW => ?_⟩
  · obtain ⟨r2, na, ap, h1, h2⟩ := r1.newL (vs := []) (ds := []) hD .nil
    exact ⟨_, [], [], rfl, ⟨r2.len, r2.slot, r2.sep, r2.tab, r2.ext |> fun _ => (by rw [show hide (D :: G.O) (upd H1 D (.lst [])) = hide G.O H1 from hide_new hD]; exact ExtN.refl _), r2.dom, fun p hp => by
      rcases List.mem_cons.mp hp with e | hp
      · rw [e]; exact ⟨List.mem_cons_self, h1⟩
      · exact r2.fly p hp, fun b hb => ⟨(r2.dcs b hb).1, (r2.dcs b hb).2.1, fun q hq => by
      rcases List.mem_cons.mp hq with e | hq
      · rw [e]; exact fun z => nD (by rw [show D = b from z]; exact (r1.dcs b hb).1)
      · exact (r2.dcs b hb).2.2 q hq⟩⟩, ap, .nil, by rw [List.drop_zero]; exact hgo⟩
  · obtain ⟨vsa, acc, rfl, r2, ap, ha, hgo⟩ := hW
    have hDv : H2 D = some (.lst vsa) := (r2.fly _ List.mem_cons_self).2
    have r2l := r2.land.1
    have dm : ∀ a ∈ D :: G.O, H2 a ≠ none := fun a ha z => by obtain ⟨o, e, _⟩ := r2.dom a ha; rw [z] at e; cases e
    obtain ⟨wk1, wk2⟩ := wk (D :: G.O) H2 r2.ext dm
    cases hd : ds.drop i with
    | nil =>
      refine .inl ⟨wk2 i (List.drop_eq_nil_iff.mp hd), ?_⟩
      rw [hd] at hgo
      exact hgo D vsa acc H2 rfl (r2l.unbase' _ r1.ext) nD ap hDv ha
    | cons d rest =>
      have hi' : i < ds.length := by
        by_cases z : i < ds.length
        · exact z
        · rw [List.drop_eq_nil_of_le (by omega)] at hd; cases hd
      have hdi : ds[i]? = some d := by
        have := List.drop_eq_getElem_cons hi'
        rw [hd] at this
        rw [List.getElem?_eq_getElem hi', ← (List.cons.inj this).1]
      have hrest : ds.drop (i + 1) = rest := by
        have := List.drop_eq_getElem_cons hi'
        rw [hd] at this
        exact (List.cons.inj this).2.symm
      obtain ⟨jgo, yld⟩ := wk1 i d hdi
      rw [hd] at hgo
      refine .inr ⟨jgo, fun H' => ∃ (vsa : List V) (acc : List PyData), Rep T X.K ⟨hide G.O H1, D :: G.O, (D, .lst vsa) :: G.fl⟩ ρ σ H' ∧ Apt ρ σ D ∧ DaAll X.K (hide (D :: G.O) H') vsa acc ∧
        goLc g wt we (wipeE ρ vs) rest acc (fun acc => ∀ (a : Addr) (vs : List V) (ds : List PyData) (H' : Hp), PyData.list acc = .list ds → Rep T X.K ⟨G.Hb, a :: G.O, G.fl⟩ ρ σ H' → a ∉ G.O → Apt ρ σ a → H' a = some (.lst vs) → DaAll X.K (hide (a :: G.O) H') vs ds → Q (.ref a) H'), fun H' hN' => ?_, fun x H3 hy => ?_⟩
      · obtain ⟨vsa, acc, h1, h2, h3, h4⟩ := hN'
        exact ⟨ds.length - (i + 1), by omega, vsa, acc, rfl, h1, h2, h3, by rw [hrest]; exact h4⟩
      · obtain ⟨al, hx⟩ := yld x H3 hy
        have r3 := r2.alloc al
        have e3 : ExtN (hide (D :: G.O) H2) (hide (D :: G.O) H3) := ext_hide fun b o _ h _ => al b o h
        have ha3 := ha.ext e3
        have r3b := r3.rebase
        -- the target
        have hgk := kg _ _ _ hgo
        refine ⟨_, _, d, (r3b.wipe vs), hx, mg _ _ _ _ (fun ρ2 h2 σ2 r4 w4 => ⟨?_, ?_⟩) hgk⟩
        · have := w4 vs hsl
          rw [this, wipe_wipe]
        · obtain ⟨h2, off, _⟩ := h2
          have hw4 : L2.wipe σ2 vs = L2.wipe σ vs := by rw [w4 vs hsl, wipe_wipe]
          have offv : Off vs ρ ρ2 := fun j hj => by
            rw [off j (fun z => hj (hsl j z)), wipeE_get hj]
          refine liftB_intro mt r4 (mt _ _ _ _ _ (fun k hk H5 r5 e5 => ?_) (fun _ z => z.elim) h2)
          have back : ∀ {H6 : Hp}, Rep T X.K ⟨hide (D :: G.O) H3, D :: G.O, (D, .lst vsa) :: G.fl⟩ ρ2 σ2 H6 → Rep T X.K ⟨hide G.O H1, D :: G.O, (D, .lst vsa) :: G.fl⟩ ρ σ H6 := fun {H6} r6 => r3.unwipe r6 no offv hw4
          cases k with
          | false => exact ⟨vsa, acc, back r5, ap, ha3.ext r5.ext, hk⟩
          | true =>
            have hk : we ρ2 (fun y => acc.length < sizeLine ∧ goLc g wt we (wipeE ρ vs) rest (acc ++ [y]) _) (fun _ => False) := hk
            refine lift_intro me r5 (me _ _ _ _ _ (fun y hy v H6 r6 e6 a6 => ?_) (fun _ z => z.elim) hk)
            have r7 := back r6
            refine ⟨vsa, (r6.fly _ List.mem_cons_self).2, by rw [ha3.length]; exact hy.1, vsa ++ [v], acc ++ [y], ?_, ap, ?_, hy.2⟩
            · exact (r7.put ap (fun q hq z => nD (by rw [← z]; exact (r1.fly q hq).1)) (.inl ⟨_, rfl⟩) (.inl ⟨_, rfl⟩)).1
            · rw [show hide (D :: G.O) (upd H6 D (.lst (vsa ++ [v]))) = hide (D :: G.O) H6 from hide_upd List.mem_cons_self]
              exact (ha3.ext r6.ext).append (.cons a6 .nil)
theorem df_lc {elt tg iter : Expr} {ifs : List Expr} {scope : Scope} {own : List (Str × Nat)} {wi : PWs} {g : GD} {wt : PWB} {we : PW} {sl : List Nat} (hc : X.calm = true) (hN : X.N.Nodup) (hi : DI T X W tg iter wi) (ok : BlkOk X.N X.env.scope scope own) (hsl : ∀ i ∈ sl, i ∈ own.map (·.2))
    (hg : ∀ (s : Shared) (H : Hp) (C : Addr) (cl : List (Str × Addr)) (fp : List Addr), DG T (X.blk s H scope (compEnvC scope cl C X.env) fp) sl tg g) (ht : ∀ (s : Shared) (H : Hp) (C : Addr) (cl : List (Str × Addr)) (fp : List Addr), DTs T (X.blk s H scope (compEnvC scope cl C X.env) fp) W0 ifs wt)
    (he : ∀ (s : Shared) (H : Hp) (C : Addr) (cl : List (Str × Addr)) (fp : List Addr), DE T (X.blk s H scope (compEnvC scope cl C X.env) fp) W0 elt we) (hs : ∀ x, foldedSetIterable iter X.env x = pure x := by intro _; rfl) :
    DF T X W (.ListComp elt [⟨tg, iter, ifs, 0⟩] scope pos) (wLc wi g wt we (own.map (·.2))) := by
  have hg0 := hg X.s_0 X.H_0 0 [] []
  have ht0 := ht X.s_0 X.H_0 0 [] []
  have he0 := he X.s_0 X.H_0 0 [] []
  refine ⟨pe_mono (pe_lc (wi := liftI T X.K W wi) (g := liftG T X.K sl g) (tt := liftB T X.K W0 wt) (te := lift T X.K W0 we) hc hN hi.pi ok (fun s H C cl fp => (hg s H C cl fp).pg) (fun s H C cl fp => (ht s H C cl fp).pt) (fun s H C cl fp => (he s H C cl fp).pe) hs) fun σ H Q q => lc_imp hi.mono hg0.mono hg0.keep ht0.mono he0.mono hsl q, mono_Lc hi.mono hg0.mono ht0.mono he0.mono⟩
end
end PL
set_option Elab.async false
set_option linter.all false
set_option maxRecDepth 100000
set_option maxHeartbeats 2000000
namespace PL
open PySem PySem.Spec PyProof.Rows L2
open LamX (ExtN Tabs TabS)
def All2 {α β : Type} (R : α → β → Prop) : List α → List β → Prop
  | [], [] => True
  | a :: as, b :: bs => R a b ∧ All2 R as bs
  | _, _ => False
theorem All2.length {α β : Type} {R : α → β → Prop} : ∀ {as : List α} {bs : List β}, All2 R as bs → as.length = bs.length
  | [], [], _ => rfl
  | _ :: _, _ :: _, h => congrArg (· + 1) (All2.length h.2)
  | [], _ :: _, h => h.elim
  | _ :: _, [], h => h.elim
theorem All2.get {α β : Type} {R : α → β → Prop} : ∀ {as : List α} {bs : List β} {i : Nat} {a : α}, All2 R as bs → as[i]? = some a → ∃ b, bs[i]? = some b ∧ R a b
  | [], _, _, _, _, h => by simp at h
  | _ :: _, [], _, _, h, _ => h.elim
  | x :: as, y :: bs, 0, a, h, e => by
    simp at e
    subst e
    exact ⟨y, rfl, h.1⟩
  | x :: as, y :: bs, i + 1, a, h, e => by
    obtain ⟨b, h1, h2⟩ := All2.get (i := i) h.2 (by simpa using e)
    exact ⟨b, by simpa using h1, h2⟩
theorem All2.map {α β γ : Type} {R : β → γ → Prop} {f : α → β} {g : α → γ} : ∀ {xs : List α}, (∀ x ∈ xs, R (f x) (g x)) → All2 R (xs.map f) (xs.map g)
  | [], _ => trivial
  | x :: xs, h => ⟨h x List.mem_cons_self, All2.map fun y hy => h y (List.mem_cons_of_mem _ hy)⟩
theorem pass_map {α : Type} (d : α) : ∀ bs : List (Option α), (passing (fun i => (bs[i]?.join).isSome) bs.length 0).map (fun i => (bs[i]?.join).getD d) = bs.filterMap id := by
  intro bs
  unfold passing
  rw [List.drop_zero]
  induction bs with
  | nil => rfl
  | cons b r ih =>
    rw [List.length_cons, List.range_succ_eq_map, List.filter_cons, List.filterMap_cons, List.filter_map]
    have e : ((fun i => ((b :: r)[i]?.join).isSome) ∘ Nat.succ) = fun i => (r[i]?.join).isSome := by
      funext i
      simp
    rw [e]
    have e2 : List.map (fun i => ((b :: r)[i]?.join).getD d) (List.map Nat.succ (List.filter (fun i => (r[i]?.join).isSome) (List.range r.length))) = r.filterMap id := by
      rw [List.map_map, ← ih]
      apply List.map_congr_left
      intro i _
      simp
    cases b with
    | none => simpa using e2
    | some x =>
      simp only [List.getElem?_cons_zero, Option.join_some, Option.isSome_some, if_true, List.map_cons, Option.getD_some, id]
      rw [e2]
/-- the elements: each item's test and value -/
def wGen {α : Type} (toD : α → PyData) (wi : PWs) (g : GD) (wt : PWB) (we : PW) (vs : List Nat) (R : List α → PyData) : PW := fun ρ Q E => NoOwn vs ρ ∧ wi ρ (fun ds => ∃ bs : List (Option α),
  All2 (fun d ob => g d (wipeE ρ vs) fun ρ2 => wt ρ2 (fun k => match ob with | some y => k = true ∧ we ρ2 (fun z => z = toD y) (fun _ => False) | none => k = false) (fun _ => False)) ds bs ∧ Q (R (bs.filterMap id))) E
def rAnyD (l : List Bool) : PyData := .bool (l.any id)
def rAllD (l : List Bool) : PyData := .bool (l.all id)
theorem mono_Gen {α : Type} {toD : α → PyData} {wi : PWs} {g : GD} {wt : PWB} {we : PW} {vs : List Nat} {R : List α → PyData} (mi : Mono wi) : Mono (wGen toD wi g wt we vs R) := fun ρ Q Q' E E' hq he h =>
  ⟨h.1, mi _ _ _ _ _ (fun ds ⟨bs, h1, h2⟩ => ⟨bs, h1, hq _ h2⟩) he h.2⟩
section
variable {T : Tb} {X : Cx} {W : WX} {pos p gpos : Pos} {e a b c : Expr} {K : PySem.W.Frag} {G G2 : Gh} {ρ ρ2 : En} {σ σ2 : L2.St} {H H' : Hp}
theorem Rep.tabbed {P : Addr} (r : Rep T K G ρ σ H) (tb : GxR.Tabbed P H H') (hP : GxR.TabG H P) (hl : P ∉ T.ap) : Rep T K G ρ σ H' := by
  obtain ⟨ps, hPs, _⟩ := hP
  have ne : ∀ {b : Addr} {o : HO}, H b = some o → (∀ ps, o ≠ .tbl ps) → b ≠ P := fun {b o} h hn z => by
    rw [z, hPs] at h
    cases h
    exact hn _ rfl
  have tg : ∀ {P'}, GxR.TabG H P' → GxR.TabG H' P' := fun {P'} ⟨ps', h1, h2⟩ => by
    by_cases z : P' = P
    · rw [z]; exact tb.1
    · exact ⟨ps', by rw [tb.2 P' z]; exact h1, h2⟩
  have tc : ∀ {c P'}, CdAt H c P' → CdAt H' c P' := fun {c P'} ⟨oc, h1, h2⟩ => ⟨oc, by rw [tb.2 c (ne h1 fun ps z => by cases z)]; exact h1, h2⟩
  refine r.step (ext_hide fun b o _ h hn => by rw [tb.2 b (ne h hn)]; exact h) (fun a ha => by obtain ⟨o, h, hn⟩ := r.dom a ha; exact tb.2 a (ne h hn)) ⟨fun P' hP' => tg (r.tab.g P' hP'), fun q hq => ?_, fun P' hP' => ?_, fun q hq => tc (r.tab.c q hq), fun q hq => ⟨by
    obtain ⟨h1, h2⟩ := r.tab.k q hq
    rw [tb.2 _ (ne h1 fun ps z => by
      rcases h2 with ⟨oc, h⟩ | ⟨s, h⟩
      · rw [h] at z; cases z
      · rw [h] at z; exact LamX.codeO_ne ps z)]
    exact h1, (r.tab.k q hq).2⟩⟩
  · obtain ⟨ps', h1, h2, h3⟩ := r.tab.l q hq
    refine ⟨ps', by rw [tb.2 _ fun z => hl (List.mem_append_left _ (List.mem_map.mpr ⟨q, hq, z⟩))]; exact h1, h2, fun pos cv hcv => ?_⟩
    obtain ⟨c', e, h4⟩ := h3 pos cv hcv
    exact ⟨c', e, by rw [tb.2 c' (ne h4 fun ps z => by unfold LamX.CodeO at z; cases z)]; exact h4⟩
  · obtain ⟨ps', h1, h2, h3⟩ := r.tab.n P' hP'
    refine ⟨ps', by rw [tb.2 _ fun z => hl (List.mem_append_right _ (by rw [← z]; exact hP'))]; exact h1, h2, fun pos cv hcv => ?_⟩
    obtain ⟨c0, P0, e1, e2, e3, e4⟩ := h3 pos cv hcv
    exact ⟨c0, P0, e1, tc e2, tg e3, e4⟩
theorem gx_core {α : Type} {toD : α → PyData} {toV : α → V} (dflt : α) (hTV : ∀ K H v y, Da K H v (toD y) → v = toV y) {k : Nat} {P : Addr} {elt tg iter : Expr} {ifs : List Expr} {scope : Scope} {own : List (Str × Nat)} {wi : PWs} {g : GD} {wt : PWB} {we : PW} {sl : List Nat} {Q : VK}
    {R : List α → PyData} {vR : List α → V} (hda : ∀ K H l, Da K H (vR l) (R l)) {rr : VK → Nat → (Nat → Bool) → (Nat → V) → (Nat → Hp → Prop) → Prop} (hPT : P ∈ T.tg) (hl : P ∉ T.ap) (mi : Mono wi) (hsl : ∀ i ∈ sl, i ∈ own.map (·.2))
    (mg : ∀ d ρ Q Q', (∀ r, Q r → Q' r) → g d ρ Q → g d ρ Q') (kg : ∀ d ρ Q, g d ρ Q → g d ρ fun ρ' => Q ρ' ∧ Off sl ρ ρ' ∧ Shd sl ρ') (mt : Mono wt) (me : Mono we)
    (hrr : ∀ (bs : List (Option α)) (Gd : Nat → Hp → Prop), (∀ i H', Gd i H' → Q (vR (bs.filterMap id)) H') → rr Q bs.length (fun i => (bs[i]?.join).isSome) (fun i => toV ((bs[i]?.join).getD dflt)) Gd)
    (h : lift T X.K W (wGen toD wi g wt we (own.map (·.2)) R) σ H Q) : GxI.tGxC (TOk T) (liftI T X.K W wi) (liftG T X.K sl g) (liftB T X.K W0 wt) (lift T X.K W0 we) (own.map (·.2)) P rr σ H Q := by
  generalize hvs : own.map (·.2) = vs at hsl h ⊢
  obtain ⟨G, ρ, r, no, q⟩ := h
  refine ⟨G, ρ, r, mi _ _ _ _ _ (fun ds hds J H1 r1 wk => ⟨r1.tab, r1.tab.g P hPT, fun H2 tb => ?_⟩) (fun _ z => z) q⟩
  obtain ⟨bs, h1, h2⟩ := hds
  have r2 := r1.tabbed tb (r1.tab.g P hPT) hl
  have e12 : ExtN (hide G.O H1) (hide G.O H2) := (r1.rebase.tabbed tb (r1.tab.g P hPT) hl).ext
  refine ⟨ds.length, fun i => (bs[i]?.join).isSome, fun i => toV ((bs[i]?.join).getD dflt), fun _ H' => Rep T X.K ⟨hide G.O H1, G.O, G.fl⟩ ρ σ H', r1.rebase.tabbed tb (r1.tab.g P hPT) hl, ⟨fun i H3 hi r3 => ?_, fun H3 r3 => ?_⟩, ?_⟩
  · have dm : ∀ a ∈ G.O, H3 a ≠ none := fun a ha z => by obtain ⟨o, e, _⟩ := r3.dom a ha; rw [z] at e; cases e
    obtain ⟨wk1, wk2⟩ := wk G.O H3 r3.ext dm
    obtain ⟨jgo, yld⟩ := wk1 i ds[i] (List.getElem?_eq_getElem hi)
    refine ⟨jgo, fun x H4 hy => ?_⟩
    obtain ⟨al, hx⟩ := yld x H4 hy
    have r4 := r3.alloc al
    obtain ⟨ob, hob, hR⟩ := h1.get (List.getElem?_eq_getElem hi)
    refine ⟨_, _, _, (r4.rebase.wipe vs), hx, mg _ _ _ _ (fun ρ2 h2 σ2 r5 w5 => ⟨?_, ?_⟩) (kg _ _ _ hR)⟩
    · rw [w5 vs hsl, wipe_wipe]
    · obtain ⟨h2, off, _⟩ := h2
      have hw5 : L2.wipe σ2 vs = L2.wipe σ vs := by rw [w5 vs hsl, wipe_wipe]
      have offv : Off vs ρ ρ2 := fun j hj => by rw [off j (fun z => hj (hsl j z)), wipeE_get hj]
      have back : ∀ {H6 : Hp}, Rep T X.K ⟨hide G.O H4, G.O, G.fl⟩ ρ2 σ2 H6 → Rep T X.K ⟨hide G.O H1, G.O, G.fl⟩ ρ σ H6 := fun {H6} r6 => r4.unwipe r6 no offv hw5
      refine liftB_intro mt r5 (mt _ _ _ _ _ (fun kk hk H6 r6 e6 => ?_) (fun _ z => z.elim) h2)
      cases ob with
      | none =>
        have hk : kk = false := hk
        subst hk
        exact ⟨by rw [hob]; rfl, ⟨fun z => Bool.noConfusion z, fun _ => back r6⟩⟩
      | some y =>
        obtain ⟨hk, hwe⟩ := hk
        subst hk
        refine ⟨by rw [hob]; rfl, fun _ => ?_, fun z => Bool.noConfusion z⟩
        refine lift_intro me r6 (me _ _ _ _ _ (fun z hz v H7 r7 e7 a7 => ?_) (fun _ z => z.elim) hwe)
        subst hz
        exact ⟨by rw [hob]; exact hTV _ _ _ _ a7, back r7⟩
  · have dm : ∀ a ∈ G.O, H3 a ≠ none := fun a ha z => by obtain ⟨o, e, _⟩ := r3.dom a ha; rw [z] at e; cases e
    exact (wk G.O H3 r3.ext dm).2 _ (Nat.le_refl _)
  · rw [h1.length]
    exact hrr bs _ fun i H' r' => h2 _ H' (r'.unbase r1.ext) (hda _ _ _)
theorem de_gen {α : Type} {toD : α → PyData} {toV : α → V} (dflt : α) (hTV : ∀ K H v y, Da K H v (toD y) → v = toV y) {R : List α → PyData} {vR : List α → V} (hda : ∀ K H l, Da K H (vR l) (R l)) {k : Nat} {cc P : Addr} {f : Str} {id' : String} {rr : VK → Nat → (Nat → Bool) → (Nat → V) → (Nat → Hp → Prop) → Prop} {elt tg iter : Expr} {ifs : List Expr} {scope : Scope} {own : List (Str × Nat)} {wi : PWs} {g : GD} {wt : PWB} {we : PW} {sl : List Nat}
    (hrr : ∀ (Q : VK) (bs : List (Option α)) (Gd : Nat → Hp → Prop), (∀ i H', Gd i H' → Q (vR (bs.filterMap id)) H') → rr Q bs.length (fun i => (bs[i]?.join).isSome) (fun i => toV ((bs[i]?.join).getD dflt)) Gd)
    (B : GxI.GxB X f id' rr) (hgl : Gl X f) (hm : X.mg f = none) (hr : Room (k + 1) X.A) (hc : X.calm = true) (hN : X.N.Nodup) (TB : GxI.TabX X cc P (TOk T)) (hPT : P ∈ T.tg) (hl : P ∉ T.ap) (hcode : X.env.code = .ref cc) (gs : GxI.GxS X.env scope) (ok : BlkOk X.N X.env.scope scope own) (hsl : ∀ i ∈ sl, i ∈ own.map (·.2))
    (hi : DI T X W tg iter wi)
    (hg : ∀ (A : Around) (s : Shared) (H : Hp) (C : Addr) (cd : Value) (cl : List (Str × Addr)) (fp : List Addr), DG T (GxI.gcx X A s H (genEnv scope cl C cd builtinsNs X.env) fp) sl tg g)
    (ht : ∀ (A : Around) (s : Shared) (H : Hp) (C : Addr) (cd : Value) (cl : List (Str × Addr)) (fp : List Addr), Room k A → DTs T (GxI.gcx X A s H (genEnv scope cl C cd builtinsNs X.env) fp) W0 ifs wt)
    (he : ∀ (A : Around) (s : Shared) (H : Hp) (C : Addr) (cd : Value) (cl : List (Str × Addr)) (fp : List Addr), Room k A → DE T (GxI.gcx X A s H (genEnv scope cl C cd builtinsNs X.env) fp) W0 elt we)
    (hs : ∀ v, genFold iter X.env v = pure v := by intro _; rfl) (hn : f ≠ "__name__" := by decide) (hd : (f == ("__debug__" : Str)) = false := by decide)
    (hst : starEach [.GeneratorExp elt [⟨tg, iter, ifs, 0⟩] scope gpos] X.env = (false, eval (.GeneratorExp elt [⟨tg, iter, ifs, 0⟩] scope gpos) X.env) :: starEach [] X.env := by rfl) :
    DE T X W (.Call (.Name f p) [.GeneratorExp elt [⟨tg, iter, ifs, 0⟩] scope gpos] [] pos) (wGen toD wi g wt we (own.map (·.2)) R) := by
  have hrk : Room k X.A := hr.mono (Nat.le_succ _)
  have ht0 := ht X.A X.s_0 X.H_0 0 .none [] [] hrk
  have he0 := he X.A X.s_0 X.H_0 0 .none [] [] hrk
  have hg0 := hg X.A X.s_0 X.H_0 0 .none [] []
  exact ⟨pe_mono (GxI.pe_gx (wi := liftI T X.K W wi) (g := liftG T X.K sl g) (tt := liftB T X.K W0 wt) (te := lift T X.K W0 we) B hgl hm hr hc hN TB hcode gs ok hi.pi (fun A s H C cd cl fp _ => (hg A s H C cd cl fp).pg) (fun A s H C cd cl fp hR => (ht A s H C cd cl fp hR).pt) (fun A s H C cd cl fp hR => (he A s H C cd cl fp hR).pe) hs hn hd hst)
    fun σ H Q q => gx_core (k := k) (P := P) (elt := elt) (tg := tg) (iter := iter) (ifs := ifs) (scope := scope) (own := own) dflt hTV hda hPT hl hi.mono hsl hg0.mono hg0.keep ht0.mono he0.mono (hrr Q) q, mono_Gen hi.mono⟩
theorem hrr_any (Q : VK) (bs : List (Option Bool)) (Gd : Nat → Hp → Prop) (h : ∀ i H', Gd i H' → Q (.bl ((bs.filterMap id).any id)) H') : GxI.rAny Q bs.length (fun i => (bs[i]?.join).isSome) (fun i => .bl ((bs[i]?.join).getD false)) Gd :=
  ⟨fun i => (bs[i]?.join).getD false, rfl, fun i H' g => by
    have e := pass_map false bs
    have : (passing (fun i => (bs[i]?.join).isSome) bs.length 0).any (fun i => (bs[i]?.join).getD false) = (bs.filterMap id).any id := by rw [← e, List.any_map]; rfl
    rw [this]
    exact h i H' g⟩
theorem hrr_all (Q : VK) (bs : List (Option Bool)) (Gd : Nat → Hp → Prop) (h : ∀ i H', Gd i H' → Q (.bl ((bs.filterMap id).all id)) H') : GxI.rAll Q bs.length (fun i => (bs[i]?.join).isSome) (fun i => .bl ((bs[i]?.join).getD false)) Gd :=
  ⟨fun i => (bs[i]?.join).getD false, rfl, fun i H' g => by
    have e := pass_map false bs
    have : (passing (fun i => (bs[i]?.join).isSome) bs.length 0).all (fun i => (bs[i]?.join).getD false) = (bs.filterMap id).all id := by rw [← e, List.all_map]; rfl
    rw [this]
    exact h i H' g⟩
end
end PL
set_option Elab.async false
set_option linter.all false
set_option maxRecDepth 100000
set_option maxHeartbeats 2000000
namespace PL
open PySem PySem.Spec PyProof.Rows L2
open LamX (ExtN Tabs TabS)
structure PEn where
  nx : En → Prop
  rt : PyData → Prop
  bk : En → Prop := fun _ => False
  ct : En → Prop := fun _ => False
  ex : Exn → Prop := fun _ => False
  rp : PyData → Prop := fun _ => False
structure PEn.Le (D D' : PEn) : Prop where
  nx : ∀ ρ, D.nx ρ → D'.nx ρ
  rt : ∀ d, D.rt d → D'.rt d
  bk : ∀ ρ, D.bk ρ → D'.bk ρ
  ct : ∀ ρ, D.ct ρ → D'.ct ρ
  ex : ∀ x, D.ex x → D'.ex x
  rp : ∀ d, D.rp d → D'.rp d
abbrev SW := En → PEn → Prop
def MonoS (w : SW) : Prop := ∀ ρ D D', PEn.Le D D' → w ρ D → w ρ D'
section
variable (T : Tb) (K : PySem.W.Frag) (W : WX)
def FlApt (fl : List (Addr × HO)) (ρ : En) (σ : L2.St) : Prop := ∀ q ∈ fl, Apt ρ σ q.1
def endS (G : Gh) (D : Ends) : PEn where
  nx ρ' := ∀ σ' H' O', Rep T K ⟨G.Hb, O', G.fl⟩ ρ' σ' H' → FlApt G.fl ρ' σ' → D.nx σ' H'
  rt d := ∀ v ρ' σ' H' O', Rep T K ⟨G.Hb, O', G.fl⟩ ρ' σ' H' → Da K (hide O' H') v d → D.rt v H'
  rp d := ∀ v ρ' σ' H' O', Rep T K ⟨G.Hb, O', G.fl⟩ ρ' σ' H' → Plt (hide O' H') v → Da K (hide O' H') v d → D.rt v H'
  bk ρ' := ∀ σ' H' O', Rep T K ⟨G.Hb, O', G.fl⟩ ρ' σ' H' → FlApt G.fl ρ' σ' → D.bk σ' H'
  ct ρ' := ∀ σ' H' O', Rep T K ⟨G.Hb, O', G.fl⟩ ρ' σ' H' → FlApt G.fl ρ' σ' → D.ct σ' H'
  ex x := ∀ ρ' σ' H' O' cls dd, Rep T K ⟨G.Hb, O', G.fl⟩ ρ' σ' H' → ExR K x cls dd (hide O' H') → W cls dd σ' H'
def liftS (w : SW) : TS := fun D σ H => ∃ G ρ, Rep T K G ρ σ H ∧ FlApt G.fl ρ σ ∧ w ρ (endS T K W G D)
end
structure DS (T : Tb) (X : Cx) (W : WX) (st : Stmt) (w : SW) : Prop where
  ps : PS X st (liftS T X.K W w)
  mono : MonoS w
structure DSs (T : Tb) (X : Cx) (W : WX) (st : List Stmt) (w : SW) : Prop where
  ps : PSs X st (liftS T X.K W w)
  mono : MonoS w
theorem ps_mono {X : Cx} {e : Stmt} {t t' : TS} (h : PS X e t) (i : ∀ D σ H, t' D σ H → t D σ H) : PS X e t' := ⟨fun pins s σ H Q I q => h.run pins s σ H Q I (i _ _ _ q)⟩
theorem pss_mono {X : Cx} {e : List Stmt} {t t' : TS} (h : PSs X e t) (i : ∀ D σ H, t' D σ H → t D σ H) : PSs X e t' := ⟨fun pins s σ H Q I q => h.run pins s σ H Q I (i _ _ _ q)⟩
section
variable {T : Tb} {X : Cx} {W : WX} {pos p pos' apos : Pos} {e a b c : Expr} {st : Stmt} {rest : List Stmt} {K : PySem.W.Frag} {G G2 : Gh} {ρ ρ2 : En} {σ σ2 : L2.St} {H H' : Hp} {D : Ends}
theorem ex_out {O' : List Addr} {x : Exn} (h : (endS T K W G D).ex x) : exOut T K W ⟨G.Hb, O', G.fl⟩ ρ σ x := fun H' cls dd r q => h ρ σ H' O' cls dd r q
theorem ex_out' {x : Exn} (h : (endS T K W G D).ex x) : exOut T K W G ρ σ x := ex_out (O' := G.O) h
def sNil : SW := fun ρ D => D.nx ρ
def sSeq (u v : SW) : SW := fun ρ D => u ρ { D with nx := fun ρ' => v ρ' D }
theorem le_nx {D D' : PEn} (l : PEn.Le D D') {v : SW} (mv : MonoS v) : PEn.Le { D with nx := fun ρ' => v ρ' D } { D' with nx := fun ρ' => v ρ' D' } := ⟨fun ρ h => mv _ _ _ l h, l.rt, l.bk, l.ct, l.ex, l.rp⟩
theorem dss_nil : DSs T X W [] sNil := ⟨pss_mono pss_nil fun D σ H q => by
  obtain ⟨G, ρ, r, fa, q⟩ := q
  exact q σ H G.O r fa, fun _ _ _ l h => l.nx _ h⟩
theorem dss_cons {u v : SW} (h1 : DS T X W st u) (h2 : DSs T X W rest v) : DSs T X W (st :: rest) (sSeq u v) :=
  ⟨pss_mono (pss_cons h1.ps h2.ps) fun D σ H q => by
    obtain ⟨G, ρ, r, fa, q⟩ := q
    refine ⟨G, ρ, r, fa, h1.mono ρ { endS T X.K W G D with nx := fun ρ' => v ρ' (endS T X.K W G D) } _ ⟨fun ρ' h σ' H' O' r' fa' => ?_, fun _ h => h, fun _ h => h, fun _ h => h, fun _ h => h, fun _ h => h⟩ q⟩
    exact ⟨⟨G.Hb, O', G.fl⟩, ρ', r', fa', h⟩,
   fun ρ D D' l h => h1.mono _ _ _ (le_nx l h2.mono) h⟩
theorem dss_one {u : SW} (h1 : DS T X W st u) : DSs T X W [st] u := ⟨pss_one h1.ps, h1.mono⟩
def sRet (w : PW) : SW := fun ρ D => w ρ D.rt D.ex
theorem ds_ret {w : PW} (h : DE T X W e w) : DS T X W (.Return (some e) pos) (sRet w) := ⟨ps_mono (ps_ret h.pe) fun D σ H q => by
  obtain ⟨G, ρ, r, fa, q⟩ := q
  exact ⟨G, ρ, r, h.mono _ _ _ _ _ (fun d hd v H' r' a => hd v ρ σ H' G.O r' a) (fun _ z => ex_out' z) q⟩, fun ρ D D' l q => h.mono _ _ _ _ _ l.rt l.ex q⟩
def sIf (t : PWB) (u v : SW) : SW := fun ρ D => t ρ (fun k => if k = true then u ρ D else v ρ D) D.ex
theorem ds_if {sa sb : List Stmt} {t : PWB} {u v : SW} (hc : DT T X W c t) (ha : DSs T X W sa u) (hb : DSs T X W sb v) : DS T X W (.If c sa sb pos) (sIf t u v) :=
  ⟨ps_mono (ps_if hc.pt ha.ps hb.ps) fun D σ H q => by
    obtain ⟨G, ρ, r, fa, q⟩ := q
    refine ⟨G, ρ, r, hc.mono _ _ _ _ _ (fun k hk H' r' => ?_) (fun _ z => ex_out' z) q⟩
    by_cases z : k = true
    · rw [if_pos z] at hk ⊢; exact ⟨G, ρ, r', fa, hk⟩
    · rw [if_neg z] at hk ⊢; exact ⟨G, ρ, r', fa, hk⟩,
   fun ρ D D' l q => hc.mono _ _ _ _ _ (fun k hk => by
    by_cases z : k = true
    · rw [if_pos z] at hk ⊢; exact ha.mono _ _ _ l hk
    · rw [if_neg z] at hk ⊢; exact hb.mono _ _ _ l hk) l.ex q⟩
theorem Rep.setSl (r : Rep T K G ρ σ H) {i : Nat} {v : V} {s : Sl} (h : SlOk K T.dc G.O H s (some v)) (hs : s.owned = true → ∀ b, v = .ref b → ∀ (j : Nat) (t : Sl), j ≠ i → ρ[j]? = some t → t.owned = true → σ[j]? ≠ some (some (.ref b))) : Rep T K G (ρ.set i s) (σ.set i (some v)) H where
  len := by rw [List.length_set, List.length_set]; exact r.len
  slot j t ht := by
    by_cases e : i = j
    · subst e
      have hl : i < ρ.length := by
        by_cases z : i < ρ.length
        · exact z
        · rw [List.getElem?_eq_none (by rw [List.length_set]; omega)] at ht; cases ht
      rw [List.getElem?_set_self hl] at ht
      cases ht
      exact ⟨some v, List.getElem?_set_self (by rw [← r.len]; exact hl), h⟩
    · rw [List.getElem?_set_ne e] at ht ⊢
      exact r.slot j t ht
  sep j k t u a hjk hj hk ht hu e1 e2 := by
    have at_i : ∀ {l : Nat} {u : Sl}, l = i → (ρ.set i s)[l]? = some u → u = s := fun {l u} e hl => by
      subst e
      by_cases hz : l < ρ.length
      · rw [List.getElem?_set_self hz] at hl; cases hl; rfl
      · rw [List.getElem?_eq_none (by rw [List.length_set]; omega)] at hl; cases hl
    have at_v : ∀ {l : Nat} {b : Addr}, l = i → (σ.set i (some v))[l]? = some (some (.ref b)) → v = .ref b := fun {l b} e hl => by
      subst e
      by_cases hz : l < σ.length
      · rw [List.getElem?_set_self hz] at hl; cases hl; rfl
      · rw [List.getElem?_eq_none (by rw [List.length_set]; omega)] at hl; cases hl
    by_cases zj : j = i
    · have zk : k ≠ i := fun z => hjk (zj.trans z.symm)
      have es := at_i zj hj
      rw [List.getElem?_set_ne (Ne.symm zk)] at hk e2
      rw [es] at ht
      exact hs ht a (at_v zj e1) k u zk hk hu e2
    · rw [List.getElem?_set_ne (Ne.symm zj)] at hj e1
      by_cases zk : k = i
      · have es := at_i zk hk
        rw [es] at hu
        exact hs hu a (at_v zk e2) j t zj hj ht e1
      · rw [List.getElem?_set_ne (Ne.symm zk)] at hk e2
        exact r.sep j k t u a hjk hj hk ht hu e1 e2
  tab := r.tab
  ext := r.ext
  dom := r.dom
  fly := r.fly
  dcs := r.dcs
theorem away_set {i j : Nat} {s t : Sl} {b : Addr} (h : ρ[j]? = some t → t.away b) (hw : s.away b) (hj : (ρ.set i s)[j]? = some t) : t.away b := by
  by_cases z : i = j
  · subst z
    by_cases hl : i < ρ.length
    · rw [List.getElem?_set_self hl] at hj
      cases hj
      exact hw
    · rw [List.getElem?_eq_none (by rw [List.length_set]; omega)] at hj; cases hj
  · rw [List.getElem?_set_ne z] at hj
    exact h hj
theorem FlApt.setSl {fl : List (Addr × HO)} (fa : FlApt fl ρ σ) {i : Nat} {v : V} {s : Sl} (h : s.owned = true → ∀ q ∈ fl, v ≠ .ref q.1) (hw : ∀ q ∈ fl, s.away q.1 := by intros; trivial) : FlApt fl (ρ.set i s) (σ.set i (some v)) := fun q hq j t hj ht => ⟨fun e => by
  by_cases z : i = j
  · subst z
    by_cases hl : i < ρ.length
    · rw [List.getElem?_set_self hl] at hj
      cases hj
      by_cases hl2 : i < σ.length
      · rw [List.getElem?_set_self hl2] at e
        cases e
        exact h ht q hq rfl
      · rw [List.getElem?_eq_none (by rw [List.length_set]; omega)] at e; cases e
    · rw [List.getElem?_eq_none (by rw [List.length_set]; omega)] at hj; cases hj
  · rw [List.getElem?_set_ne z] at hj e
    exact (fa q hq j t hj ht).1 e, away_set (fun hj => (fa q hq j t hj ht).2) (hw q hq) hj⟩
theorem FlApt.setSh {fl : List (Addr × HO)} (fa : FlApt fl ρ σ) {i : Nat} {v : V} {d : PyData} : FlApt fl (ρ.set i (.sh d)) (σ.set i (some v)) := fa.setSl fun h => by cases h
def sSet (i : Nat) (w : PW) : SW := fun ρ D => w ρ (fun d => D.nx (ρ.set i (.sh d))) D.ex
theorem ds_set {i : Nat} {x : Str} {w : PW} (hN : X.N.Nodup) (hi : X.N[i]? = some x) (hx : Loc X.env.scope x) (h : DE T X W e w) (hs : swapsWith e (some (.Name x pos')) pos.line X.env = pure false := by rfl)
    (hf : X.fn x = true ∨ X.env.scope.names.lookup x = some .local := by first | exact .inl rfl | exact .inr rfl | assumption) : DS T X W (.Assign [.Name x pos'] e pos) (sSet i w) :=
  ⟨ps_mono (ps_set hN hi hx h.pe hs hf) fun D σ H q => by
    obtain ⟨G, ρ, r, fa, q⟩ := q
    exact ⟨G, ρ, r, h.mono _ _ _ _ _ (fun d hd v H' r' a => hd _ H' G.O (r'.setSh a) fa.setSh) (fun _ z => ex_out' z) q⟩, fun ρ D D' l q => h.mono _ _ _ _ _ (fun d hd => l.nx _ hd) l.ex q⟩
def sOwn (i : Nat) (w : PW) : SW := fun ρ D => w ρ (fun d => match d with | .list ds => D.nx (ρ.set i (.ol ds)) | _ => False) D.ex
theorem mono_own {i : Nat} {w : PW} (m : Mono w) : MonoS (sOwn i w) := fun ρ D D' l q => m _ _ _ _ _ (fun d hd => by cases d <;> first | exact l.nx _ hd | exact hd) l.ex q
theorem own_imp {i : Nat} {w : PW} (m : Mono w) (q : liftS T K W (sOwn i w) D σ H) : liftF T K W w σ H fun x H1 => gName i x σ H1 D.nx := by
  obtain ⟨G, ρ, r, fa, q⟩ := q
  refine ⟨G, ρ, r, m _ _ _ _ _ (fun d hd a vs ds H' ed r' na ap h1 h2 => ?_) (fun _ z => ex_out' z) q⟩
  subst ed
  exact hd _ H' (a :: G.O) (r'.setSl (s := .ol ds) ⟨a, vs, rfl, ⟨List.mem_cons_self, fun z => na (r.dcs a z).1⟩, h1, h2⟩ fun _ b eb j t _ hj ht => by cases eb; exact (ap j t hj ht).1) (fa.setSl fun _ q hq e => na (by cases e; exact (r.fly q hq).1))
/-- y = [..], y a plain local of the def -/
theorem ds_ownLc {i : Nat} {y : Str} {py spos : Pos} {elt tg iter : Expr} {ifs : List Expr} {scope : Scope} {own : List (Str × Nat)} {wi : PWs} {g : GD} {wt : PWB} {we : PW} {sl : List Nat} (hc : X.calm = true) (hN : X.N.Nodup) (hy : X.N[i]? = some y) (hyl : X.env.scope.names.lookup y = some .local)
    (hsw : swapsWith (.ListComp elt [⟨tg, iter, ifs, 0⟩] scope pos) (some (.Name y py)) spos.line X.env = pure true) (hi : DI T X W tg iter wi) (ok : BlkOk X.N X.env.scope scope own) (hsl : ∀ i ∈ sl, i ∈ own.map (·.2))
    (hg : ∀ (s : Shared) (H : Hp) (C : Addr) (cl : List (Str × Addr)) (fp : List Addr), DG T (X.blk s H scope (compEnvC scope cl C X.env) fp) sl tg g) (ht : ∀ (s : Shared) (H : Hp) (C : Addr) (cl : List (Str × Addr)) (fp : List Addr), DTs T (X.blk s H scope (compEnvC scope cl C X.env) fp) W0 ifs wt)
    (he : ∀ (s : Shared) (H : Hp) (C : Addr) (cl : List (Str × Addr)) (fp : List Addr), DE T (X.blk s H scope (compEnvC scope cl C X.env) fp) W0 elt we) (hs : ∀ x, foldedSetIterable iter X.env x = pure x := by intro _; rfl) :
    DS T X W (.Assign [.Name y py] (.ListComp elt [⟨tg, iter, ifs, 0⟩] scope pos) spos) (sOwn i (wLc wi g wt we (own.map (·.2)))) := by
  have hg0 := hg X.s_0 X.H_0 0 [] []
  have ht0 := ht X.s_0 X.H_0 0 [] []
  have he0 := he X.s_0 X.H_0 0 [] []
  exact ⟨ps_mono (ps_setLc (wi := liftI T X.K W wi) (g := liftG T X.K sl g) (tt := liftB T X.K W0 wt) (te := lift T X.K W0 we) hc hN hy hyl hsw hi.pi ok (fun s H C cl fp => (hg s H C cl fp).pg) (fun s H C cl fp => (ht s H C cl fp).pt) (fun s H C cl fp => (he s H C cl fp).pe) hs)
    fun D σ H q => lc_imp hi.mono hg0.mono hg0.keep ht0.mono he0.mono hsl (own_imp (mono_Lc hi.mono hg0.mono ht0.mono he0.mono) q), mono_own (mono_Lc hi.mono hg0.mono ht0.mono he0.mono)⟩
theorem FlApt.asg {fl : List (Addr × HO)} {sl : List Nat} (fa : FlApt fl ρ σ) (h1 : Off sl ρ ρ2) (h2 : Shd sl ρ2) (hw : ∀ vs, (∀ i ∈ sl, i ∈ vs) → wipe σ2 vs = wipe σ vs) : FlApt fl ρ2 σ2 := fun q hq j t hj ht => by
  by_cases z : j ∈ sl
  · rw [h2 j z t hj] at ht; cases ht
  · rw [h1 j z] at hj
    refine ⟨fun e => ?_, (fa q hq j t hj ht).2⟩
    have := hw sl fun i hi => hi
    have e2 : (wipe σ2 sl)[j]? = (wipe σ sl)[j]? := by rw [this]
    rw [wipe_get z, wipe_get z, e] at e2
    exact (fa q hq j t hj ht).1 e2.symm
def sAsg (w : PW) (g : GD) : SW := fun ρ D => w ρ (fun d => g d ρ D.nx) D.ex
theorem ds_asg {tg : Expr} {w : PW} {g : GD} {sl : List Nat} (h : DE T X W e w) (hg : DG T X sl tg g) (hs : swapsWithSole [tg] e pos.line X.env = pure false := by rfl) (hw : swappedStores [tg] e X.env = pure none := by rfl)
    (h1 : (assignEach [tg] X.env).map (·.2) = [assign tg X.env] := by rfl) : DS T X W (.Assign [tg] e pos) (sAsg w g) :=
  ⟨ps_mono (ps_asg h.pe hg.pg hs hw h1) fun D σ H q => by
    obtain ⟨G, ρ, r, fa, q⟩ := q
    exact ⟨G, ρ, r, h.mono _ _ _ _ _ (fun d hd v H' r' a => ⟨G, ρ, d, r', a, hg.mono _ _ _ _ (fun ρ' q' σ' r'' hw => q'.1 σ' H' G.O r'' (fa.asg q'.2.1 q'.2.2 hw)) (hg.keep _ _ _ hd)⟩) (fun _ z => ex_out' z) q⟩, fun ρ D D' l q => h.mono _ _ _ _ _ (fun d hd => hg.mono _ _ _ _ (fun _ z => l.nx _ z) hd) l.ex q⟩
/-- writing the list in slot i -/
theorem Rep.wr (r : Rep T K G ρ σ H) {i : Nat} {ds ds' : List PyData} {a : Addr} {vs vs' : List V} (hi : ρ[i]? = some (.ol ds)) (hv : σ[i]? = some (some (.ref a))) (ha : Own T.dc G.O a) (h1 : H a = some (.lst vs)) (hx : DaAll K (hide G.O H) vs' ds') (hfl : ∀ q ∈ G.fl, q.1 ≠ a) :
    Rep T K G (ρ.set i (.ol ds')) σ (upd H a (.lst vs')) := by
  have eh : hide G.O (upd H a (.lst vs')) = hide G.O H := hide_upd ha.1
  have hil : i < ρ.length := (List.getElem?_eq_some_iff.mp hi).1
  refine ⟨by rw [List.length_set]; exact r.len, fun j s hs => ?_, fun j k s t b hjk hj hk hs ht e1 e2 => ?_, r.tab.upd h1 (.inl ⟨_, rfl⟩), by rw [eh]; exact r.ext, fun b hb => ?_, fun q hq => ?_, fun b hb => ⟨(r.dcs b hb).1, by rw [upd_ne fun z => ha.2 (by rw [← z]; exact hb)]; exact (r.dcs b hb).2.1, (r.dcs b hb).2.2⟩⟩
  · by_cases e : i = j
    · subst e
      rw [List.getElem?_set_self hil] at hs
      cases hs
      exact ⟨_, hv, a, vs', rfl, ha, upd_same, by rw [eh]; exact hx⟩
    · rw [List.getElem?_set_ne e] at hs
      obtain ⟨u, h2, h3⟩ := r.slot j s hs
      have ne : ∀ b, s.owned = true → u = some (.ref b) → b ≠ a := fun b hw eu z => by
        rw [eu, z] at h2
        exact r.sep i j _ s a e hi hs rfl hw hv h2
      refine ⟨u, h2, ?_⟩
      cases s with
      | un => trivial
      | sh d => obtain ⟨x, h4, h5⟩ := h3; exact ⟨x, h4, by rw [eh]; exact h5⟩
      | ol _ => obtain ⟨b, us, h4, h5, h6, h7⟩ := h3; exact ⟨b, us, h4, h5, by rw [upd_ne (ne b rfl h4)]; exact h6, by rw [eh]; exact h7⟩
      | ok _ => obtain ⟨b, us, h4, h5, h6, h7, h8⟩ := h3; exact ⟨b, us, h4, h5, by rw [upd_ne (ne b rfl h4)]; exact h6, h7, by rw [eh]; exact h8⟩
      | ot _ => obtain ⟨b, us, h4, h5, h6, h7, h8⟩ := h3; exact ⟨b, us, h4, h5, by rw [upd_ne (ne b rfl h4)]; exact h6, h7, by rw [eh]; exact h8⟩
      | ln b _ => obtain ⟨h4, h5, hob, h6, h8⟩ := h3; exact ⟨h4, h5, hob, by rw [upd_ne (ne b rfl h4)]; exact h6, by rw [eh]; exact h8⟩
      | on _ => obtain ⟨b, us, h4, h5, h6, h7, h8⟩ := h3; exact ⟨b, us, h4, h5, by rw [upd_ne (ne b rfl h4)]; exact h6, h7, by rw [eh]; exact h8⟩
      | sn d => obtain ⟨x, h4, h5⟩ := h3; exact ⟨x, h4, by rw [eh]; exact h5⟩
      | sk d => obtain ⟨x, h4, h5⟩ := h3; exact ⟨x, h4, by rw [eh]; exact h5⟩
      | rr d => obtain ⟨x, h4, h5⟩ := h3; exact ⟨x, h4, by rw [eh]; exact h5⟩
      | rg A R => obtain ⟨h4, h5, h6, h7⟩ := h3; exact ⟨h4, h5, h6, by rw [eh]; exact h7.ext (ExtN.refl _) fun c hc => upd_ne (h7.ne h1 trivial c hc)⟩
      | dice => exact h3
      | scr ns => obtain ⟨b, h4, h5⟩ := h3; exact ⟨b, h4, by rw [eh]; exact h5⟩
  · have own : ∀ {l : Nat} {u : Sl}, (ρ.set i (.ol ds'))[l]? = some u → u.owned = true → ∃ u', ρ[l]? = some u' ∧ u'.owned = true := fun {l u} hl hu => by
      by_cases e : i = l
      · subst e; exact ⟨_, hi, rfl⟩
      · rw [List.getElem?_set_ne e] at hl; exact ⟨u, hl, hu⟩
    obtain ⟨s', hj', hs'⟩ := own hj hs
    obtain ⟨t', hk', ht'⟩ := own hk ht
    exact r.sep j k s' t' b hjk hj' hk' hs' ht' e1 e2
  · by_cases z : b = a
    · rw [z, upd_same]; exact ⟨_, rfl, nt_of rfl⟩
    · rw [upd_ne z]; exact r.dom b hb
  · obtain ⟨h2, h3⟩ := r.fly q hq
    exact ⟨h2, by rw [upd_ne (hfl q hq)]; exact h3⟩
end
end PL
set_option Elab.async false
set_option linter.all false
set_option maxRecDepth 100000
set_option maxHeartbeats 2000000
namespace PL
open PySem PySem.Spec PyProof.Rows L2
open LamX (ExtN Tabs TabS)
section
variable {T : Tb} {X : Cx} {W : WX} {pos p pos' apos : Pos} {e a b c : Expr} {st : Stmt} {rest : List Stmt} {K : PySem.W.Frag} {G G2 : Gh} {ρ ρ2 : En} {σ σ2 : L2.St} {H H' : Hp} {D : Ends}
def sRaise (C : Addr) : SW := fun _ D => D.ex ⟨C, none⟩
theorem ds_raise {C : Addr} (hc : X.calm = true) (tk : Takes X W) (hm : PMk X e (fun _ H Q => Q (.ref C) none H)) : DS T X W (.Raise (some e) none pos) (sRaise C) :=
  ⟨ps_mono (ps_raise hc tk hm) fun D σ H q => by
    obtain ⟨G, ρ, r, fa, q⟩ := q
    exact q ρ σ H G.O _ _ r ⟨rfl, rfl⟩, fun ρ D D' l q => l.ex _ q⟩
def sEx (w : PW) : SW := fun ρ D => w ρ (fun _ => D.nx ρ) D.ex
theorem ds_ex {w : PW} (h : DE T X W e w) (hs : swapsWith e none pos.line X.env = pure false := by rfl) : DS T X W (.Expr e pos) (sEx w) :=
  ⟨ps_mono (ps_expr h.pe hs) fun D σ H q => by
    obtain ⟨G, ρ, r, fa, q⟩ := q
    exact ⟨G, ρ, r, h.mono _ _ _ _ _ (fun d hd v H' r' a => hd σ H' G.O r' fa) (fun _ z => ex_out' z) q⟩, fun ρ D D' l q => h.mono _ _ _ _ _ (fun d hd => l.nx _ hd) l.ex q⟩
theorem FlApt.wr {fl : List (Addr × HO)} {i : Nat} {s s' : Sl} (fa : FlApt fl ρ σ) (hd : ρ[i]? = some s) (ho : s.owned = true) (hw : ∀ q ∈ fl, s'.away q.1 := by intros; trivial) : FlApt fl (ρ.set i s') σ := fun q hq j t hj ht => ⟨fun e => by
  by_cases z : i = j
  · subst z; exact (fa q hq i _ hd ho).1 e
  · rw [List.getElem?_set_ne z] at hj
    exact (fa q hq j t hj ht).1 e, away_set (fun hj => (fa q hq j t hj ht).2) (hw q hq) hj⟩
theorem Rep.frz (r : Rep T K G ρ σ H) {i : Nat} {ds : List PyData} {a : Addr} {vs : List V} (hi : ρ[i]? = some (.ol ds)) (hv : σ[i]? = some (some (.ref a))) (h1 : H a = some (.lst vs)) (ha : Own T.dc G.O a) (hx : DaAll K (hide G.O H) vs ds) (hfl : ∀ q ∈ G.fl, q.1 ≠ a) :
    Rep T K ⟨G.Hb, G.O.filter (fun b => decide (b ≠ a)), G.fl⟩ (ρ.set i (.sh (.list ds))) σ H := by
  have mem : ∀ {b}, b ∈ G.O.filter (fun b => decide (b ≠ a)) ↔ b ∈ G.O ∧ b ≠ a := fun {b} => by rw [List.mem_filter, decide_eq_true_eq]
  have e : ExtN (hide G.O H) (hide (G.O.filter (fun b => decide (b ≠ a))) H) := ext_sub fun b hb => (mem.mp hb).1
  have hil : i < ρ.length := (List.getElem?_eq_some_iff.mp hi).1
  refine ⟨by rw [List.length_set]; exact r.len, fun j s hs => ?_, fun j k s t b hjk hj hk hs ht e1 e2 => ?_, r.tab, r.ext.trans e, fun b hb => r.dom b (mem.mp hb).1, fun q hq => ⟨mem.mpr ⟨(r.fly q hq).1, hfl q hq⟩, (r.fly q hq).2⟩,
    fun b hb => ⟨mem.mpr ⟨(r.dcs b hb).1, fun z => ha.2 (by rw [← z]; exact hb)⟩, (r.dcs b hb).2⟩⟩
  · by_cases z : i = j
    · subst z
      rw [List.getElem?_set_self hil] at hs
      cases hs
      exact ⟨_, hv, _, rfl, .lst (by rw [hide_out fun z => (mem.mp z).2 rfl]; exact h1) (hx.ext e)⟩
    · rw [List.getElem?_set_ne z] at hs
      obtain ⟨u, h2, h3⟩ := r.slot j s hs
      have ne : ∀ b, s.owned = true → u = some (.ref b) → b ≠ a := fun b hw eu z' => by
        rw [eu, z'] at h2
        exact r.sep i j _ s a z hi hs rfl hw hv h2
      refine ⟨u, h2, ?_⟩
      cases s with
      | un => trivial
      | sh d => obtain ⟨x, h4, h5⟩ := h3; exact ⟨x, h4, h5.ext e⟩
      | ol _ => obtain ⟨b, us, h4, h5, h6, h7⟩ := h3; exact ⟨b, us, h4, ⟨mem.mpr ⟨h5.1, ne b rfl h4⟩, h5.2⟩, h6, h7.ext e⟩
      | ok _ => obtain ⟨b, us, h4, h5, h6, h7, h8⟩ := h3; exact ⟨b, us, h4, ⟨mem.mpr ⟨h5.1, ne b rfl h4⟩, h5.2⟩, h6, h7, h8.ext e⟩
      | ot _ => obtain ⟨b, us, h4, h5, h6, h7, h8⟩ := h3; exact ⟨b, us, h4, ⟨mem.mpr ⟨h5.1, ne b rfl h4⟩, h5.2⟩, h6, h7, h8.ext e⟩
      | ln b _ => obtain ⟨h4, h5, hob, h6, h8⟩ := h3; exact ⟨h4, ⟨mem.mpr ⟨h5.1, ne b rfl h4⟩, h5.2⟩, hob, h6, h8.ext e⟩
      | on _ => obtain ⟨b, us, h4, h5, h6, h7, h8⟩ := h3; exact ⟨b, us, h4, ⟨mem.mpr ⟨h5.1, ne b rfl h4⟩, h5.2⟩, h6, h7, h8.ext e⟩
      | sn d => obtain ⟨x, h4, h5⟩ := h3; exact ⟨x, h4, h5.ext e⟩
      | sk d => obtain ⟨x, h4, h5⟩ := h3; exact ⟨x, h4, h5.ext e⟩
      | rr d => obtain ⟨x, h4, h5⟩ := h3; exact ⟨x, h4, h5.ext e⟩
      | rg A R => obtain ⟨h4, h5, h6, h7⟩ := h3; exact ⟨h4, fun c hc => ⟨mem.mpr ⟨(h5 c hc).1, h7.ne h1 trivial c hc⟩, (h5 c hc).2⟩, h6, h7.ext e fun _ _ => rfl⟩
      | dice => exact h3
      | scr ns => obtain ⟨b, h4, h5⟩ := h3; exact ⟨b, h4, sqL_ext e h5⟩
  · have own : ∀ {l : Nat} {u : Sl}, (ρ.set i (.sh (.list ds)))[l]? = some u → u.owned = true → ρ[l]? = some u := fun {l u} hl hu => by
      by_cases z : i = l
      · subst z; rw [List.getElem?_set_self hil] at hl; cases hl; cases hu
      · rw [List.getElem?_set_ne z] at hl; exact hl
    exact r.sep j k s t b hjk (own hj hs) (own hk ht) hs ht e1 e2
def sFrz (i : Nat) (v : SW) : SW := fun ρ D => match ρ[i]? with
  | some (.ol ds) => v (ρ.set i (.sh (.list ds))) D
  | some (.sh _) => v ρ D
  | _ => False
theorem dss_frz {sts : List Stmt} (i : Nat) {v : SW} (h : DSs T X W sts v) : DSs T X W sts (sFrz i v) :=
  ⟨pss_mono h.ps fun D σ H q => by
    obtain ⟨G, ρ, r, fa, q⟩ := q
    unfold sFrz at q
    split at q
    · rename_i ds hd
      obtain ⟨v', h1, b, vs, rfl, h3, h4, h5⟩ := r.slot i _ hd
      refine ⟨⟨G.Hb, G.O.filter (fun c => decide (c ≠ b)), G.fl⟩, _, r.frz hd h1 h4 h3 h5 fun q hq z => (fa q hq i _ hd rfl).1 (by rw [z]; exact h1), fa.wr hd rfl, q⟩
    · exact ⟨G, ρ, r, fa, q⟩
    · exact q.elim, fun ρ D D' l q => by
    unfold sFrz at q ⊢
    split at q
    · exact h.mono _ _ _ l q
    · exact h.mono _ _ _ l q
    · exact q⟩
def goFor (g : GD) (b : SW) (D : PEn) : List PyData → En → Prop
  | [], ρ => D.nx ρ
  | d :: ds, ρ => g d ρ fun ρ2 => b ρ2 { D with nx := goFor g b D ds, ct := goFor g b D ds, bk := D.nx }
def sFor (wi : PWs) (g : GD) (b : SW) : SW := fun ρ D => wi ρ (fun ds => goFor g b D ds ρ) D.ex
theorem goFor_mono {g : GD} {b : SW} (mg : ∀ d ρ Q Q', (∀ r, Q r → Q' r) → g d ρ Q → g d ρ Q') (mb : MonoS b) {D D' : PEn} (l : PEn.Le D D') : ∀ (ds : List PyData) (ρ : En), goFor g b D ds ρ → goFor g b D' ds ρ
  | [], ρ, h => l.nx _ h
  | d :: ds, ρ, h => mg _ _ _ _ (fun ρ2 h2 => mb ρ2 { D with nx := goFor g b D ds, ct := goFor g b D ds, bk := D.nx } _ ⟨goFor_mono mg mb l ds, l.rt, l.nx, goFor_mono mg mb l ds, l.ex, l.rp⟩ h2) h
theorem ends_base {Hb : Hp} {O : List Addr} {fl : List (Addr × HO)} (D : Ends) (e : ExtN G.Hb Hb) (hfl : G.fl = fl) : PEn.Le (endS T K W G D) (endS T K W ⟨Hb, O, fl⟩ D) := by
  subst hfl
  exact ⟨fun ρ h σ' H' O' r f => h σ' H' O' (r.unbase' _ e) f, fun d h v ρ' σ' H' O' r a => h v ρ' σ' H' O' (r.unbase' _ e) a, fun ρ h σ' H' O' r f => h σ' H' O' (r.unbase' _ e) f, fun ρ h σ' H' O' r f => h σ' H' O' (r.unbase' _ e) f,
    fun x h ρ' σ' H' O' cls dd r q => h ρ' σ' H' O' cls dd (r.unbase' _ e) q, fun d h v ρ' σ' H' O' r p a => h v ρ' σ' H' O' (r.unbase' _ e) p a⟩
theorem ds_for {tg iter : Expr} {body : List Stmt} {wi : PWs} {g : GD} {bw : SW} {sl : List Nat} (hp : PassesOwn (model X.prog X.w) X.A X.env X.xe) (hc : X.calm = true) (hi : DI T X W tg iter wi) (hg : DG T X sl tg g) (hb : DSs T X W body bw)
    (hs : ∀ x, foldedSetIterable iter X.env x = pure x := by intro _; rfl) : DS T X W (.For tg iter body [] pos) (sFor wi g bw) :=
  ⟨ps_mono (ps_for hp hc hi.pi hg.pg hb.ps hs) fun D σ H q => by
    obtain ⟨G, ρ, r, fa, q⟩ := q
    refine ⟨G, ρ, r, hi.mono _ _ _ _ _ (fun ds hds J H1 r1 wk => ?_) (fun _ z => ex_out' z) q⟩
    refine ⟨fun i m σ' H' => m = ds.length - i ∧ ∃ ρ' O', Rep T X.K ⟨hide G.O H1, O', G.fl⟩ ρ' σ' H' ∧ FlApt G.fl ρ' σ' ∧ goFor g bw (endS T X.K W G D) (ds.drop i) ρ', ⟨_, rfl, ρ, G.O, r1.rebase, fa, hds⟩, fun i m σ' H' hW => ?_⟩
    obtain ⟨rfl, ρ', O', r2, fa2, hgo⟩ := hW
    have dm : ∀ a ∈ O', H' a ≠ none := fun a ha z => by obtain ⟨o, e, _⟩ := r2.dom a ha; rw [z] at e; cases e
    obtain ⟨wk1, wk2⟩ := wk O' H' r2.ext dm
    cases hd : ds.drop i with
    | nil =>
      rw [hd] at hgo
      exact .inl ⟨wk2 i (List.drop_eq_nil_iff.mp hd), hgo σ' H' O' (r2.unbase' _ r1.ext) fa2⟩
    | cons d rest =>
      have hi' : i < ds.length := by
        by_cases z : i < ds.length
        · exact z
        · rw [List.drop_eq_nil_of_le (by omega)] at hd; cases hd
      have hdd := List.drop_eq_getElem_cons hi'
      rw [hd] at hdd
      have hdi : ds[i]? = some d := by rw [List.getElem?_eq_getElem hi', ← (List.cons.inj hdd).1]
      have hrest : ds.drop (i + 1) = rest := (List.cons.inj hdd).2.symm
      obtain ⟨jgo, yld⟩ := wk1 i d hdi
      rw [hd] at hgo
      refine .inr ⟨jgo, fun σ'' H'' => ∃ ρ'' O'', Rep T X.K ⟨hide G.O H1, O'', G.fl⟩ ρ'' σ'' H'' ∧ FlApt G.fl ρ'' σ'' ∧ goFor g bw (endS T X.K W G D) rest ρ'', fun σ'' H'' h => ⟨ds.length - (i + 1), by omega, rfl, by rw [hrest]; exact h⟩, fun x H3 hy => ?_⟩
      obtain ⟨al, hx⟩ := yld x H3 hy
      have r3 := r2.alloc al
      refine ⟨_, ρ', d, r3, hx, hg.mono _ _ _ _ (fun ρ2 h2 σ2 r4 hw => ?_) (hg.keep _ _ _ hgo)⟩
      refine ⟨_, ρ2, r4, fa2.asg h2.2.1 h2.2.2 hw, hb.mono _ _ _ ?_ h2.1⟩
      have eb := ends_base (T := T) (K := X.K) (W := W) (O := O') D r1.ext (G := G) rfl
      exact ⟨fun ρ3 h3 σ3 H3 O3 r5 f5 => ⟨ρ3, O3, r5, f5, h3⟩, eb.rt, eb.nx, fun ρ3 h3 σ3 H3 O3 r5 f5 => ⟨ρ3, O3, r5, f5, h3⟩, eb.ex, eb.rp⟩,
   fun ρ D D' l q => hi.mono _ _ _ _ _ (fun ds h => goFor_mono hg.mono hb.mono l ds ρ h) l.ex q⟩
end
end PL
set_option Elab.async false
set_option linter.all false
set_option maxRecDepth 100000
set_option maxHeartbeats 2000000
namespace PL
open PySem PySem.Spec PyProof.Rows L2
open LamX (ExtN Tabs TabS)
structure FunC (K : PySem.W.Frag) (x : Str) (st : Stmt) (f c : Addr) (fd : FuncData) : Prop where
  ex : ∃ (oc : Value) (od : Option Addr) (kV doc pm : Value) (an : Option Addr) (ct : Value) (osl : Array (Option Value)),
    fd = PySem.W.fnOf x x (defArgs st) (defBody st) (defScope st) .none kV doc pm an (.ref c) ct ∧ K.lookup f = some ⟨oc, od, .func fd, osl⟩ ∧ PySem.W.codeIn K (.ref c) x = true
  kp : PySem.W.keepIn K (.ref f) = true
section
variable {P : Program} {w : World} {K : PySem.W.Frag} {mg : Str → Option Value} {base : Heap} {x : Str} {st : Stmt} {f c : Addr} {fd : FuncData} {N ps : List Str} {k : Nat} {sp : Sp}
theorem FunC.okX (F : FunC K x st f c fd) (S : FnScope N ps (defScope st)) (len : ∀ vs H Q E, sp vs H Q E → vs.length = ps.length)
    (hbody : ∀ (A : Around) (outer : List Env) (s : Shared) (H : Hp) (vs : List V) (Q : VK) (E : XK), Room k (A.deeper (envOfC x (defScope st) s.heap.objs.size f (.ref c))) → sp vs H Q E →
      ∃ t, PSs (cxOf (L2.CX P w) P w K mg base N x (defScope st) f (.ref c) A outer s H E) (defBody st) t ∧ t { nx := fun _ H' => Q .non H', rt := Q } (start N vs) H) : FnOk P w K mg base (L2.CX P w) (k + 1) f fd ps sp := by
  obtain ⟨oc, od, kV, doc, pm, an, ct, osl, rfl, lk, hcd⟩ := F.ex
  exact fn_of lk hcd S len fun A outer s H vs Q E hr hsp => hbody A outer s H vs Q E hr hsp
theorem FunC.binds (F : FunC K x st f c fd)
    (h : ∀ (kV doc pm : Value) (an : Option Addr) (cdv ct : Value) (us : List Value), us.length = ps.length → bindArgs (PySem.W.fnOf x x (defArgs st) (defBody st) (defScope st) .none kV doc pm an cdv ct) ⟨us, []⟩ = pure (ps.zip us)) : Binds K fd ps [] := by
  obtain ⟨oc, od, kV, doc, pm, an, ct, osl, rfl, lk, hcd⟩ := F.ex
  exact .all (h kV doc pm an (.ref c) ct)
end
def flOf (D0 O : List Addr) (H : Hp) : List (Addr × HO) := O.filterMap fun a => if a ∈ D0 then none else (H a).map fun o => (a, o)
theorem mem_flOf {D0 O : List Addr} {H : Hp} {a : Addr} {o : HO} : (a, o) ∈ flOf D0 O H ↔ a ∈ O ∧ a ∉ D0 ∧ H a = some o := by
  unfold flOf
  rw [List.mem_filterMap]
  constructor
  · rintro ⟨b, hb, e⟩
    by_cases z : b ∈ D0
    · rw [if_pos z] at e; cases e
    · rw [if_neg z] at e
      cases h : H b with
      | none => rw [h] at e; cases e
      | some o' => rw [h] at e; cases e; exact ⟨hb, z, h⟩
  · rintro ⟨h1, h2, h3⟩
    exact ⟨a, h1, by rw [if_neg h2, h3]; rfl⟩
structure Back (T : Tb) (O : List Addr) (H H' : Hp) : Prop where
  ext : ExtN (hide O H) (hide O H')
  keep : ∀ a ∈ O, a ∉ T.dc → H' a = H a
  dc : ∀ a ∈ T.dc, ∃ x y z, H' a = some (.lst [.int x, .int y, .int z])
  tab : TOk T H'
/-- a contract: of the arguments' slots -/
def spD (T : Tb) (K : PySem.W.Frag) (n : Nat) (c : PW) : Sp := fun vs H Q E => ∃ (O : List Addr) (ρ : En), ρ.length = n ∧ Rep T K ⟨hide O H, O, flOf T.dc O H⟩ ρ (vs.map some) H ∧ (∀ s ∈ ρ, s.owned = false) ∧
  c ρ (fun d => ∀ v H', Back T O H H' → Da K (hide O H') v d → Q v H') (fun x => ∀ H' cls dd, Back T O H H' → ExR K x cls dd (hide O H') → E cls dd H')
def cOf (N : List Str) (w : SW) : PW := fun ρ Q E => w (ρ ++ List.replicate (N.length - ρ.length) .un) { nx := fun _ => Q .none, rt := Q, ex := E }
theorem mono_cOf {N : List Str} {w : SW} (m : MonoS w) : Mono (cOf N w) := fun ρ Q Q' E E' hq he h => m _ { nx := fun _ => Q .none, rt := Q, ex := E } _ ⟨fun _ => hq _, hq, fun _ z => z, fun _ z => z, he, fun _ z => z⟩ h
section
variable {T : Tb} {X : Cx} {W : WX} {pos p pos' apos : Pos} {e a b : Expr} {es : List Expr} {st : Stmt} {rest : List Stmt} {K : PySem.W.Frag} {G G2 : Gh} {ρ ρ2 : En} {σ σ2 : L2.St} {H H' : Hp} {D : Ends}
theorem Rep.back {O' : List Addr} {O : List Addr} (r : Rep T K ⟨hide O H, O', flOf T.dc O H⟩ ρ σ H') (dom : ∀ a ∈ O, ∃ o, H a = some o ∧ NT o) : Back T O H H' ∧ ExtN (hide O' H') (hide O H') := by
  have sub : ∀ b ∈ O, b ∈ O' := fun b hb => by
    by_cases z : b ∈ T.dc
    · exact (r.dcs b z).1
    · obtain ⟨o, ho, _⟩ := dom b hb
      exact (r.fly (b, o) (mem_flOf.mpr ⟨hb, z, ho⟩)).1
  have e := ext_sub (H := H') sub
  refine ⟨⟨r.ext.trans e, fun a ha nd => ?_, fun a ha => (r.dcs a ha).2.1, r.tab⟩, e⟩
  obtain ⟨o, ho, _⟩ := dom a ha
  rw [ho]
  exact (r.fly (a, o) (mem_flOf.mpr ⟨ha, nd, ho⟩)).2
theorem exR_ext {x : Exn} {cls : Value} {dd : Option Addr} (e : ExtN H H') (h : ExR K x cls dd H) : ExR K x cls dd H' := by
  obtain ⟨h1, h2⟩ := h
  refine ⟨h1, ?_⟩
  cases hx : x.fld with
  | none => rw [hx] at h2; exact h2
  | some q =>
    rw [hx] at h2
    obtain ⟨a, v, ha, hb, hc⟩ := h2
    exact ⟨a, v, ha, e _ _ hb (fun ps z => by cases z), hc.ext e⟩
theorem start_eq {N : List Str} {vs : List V} {ρ : En} (h : ρ.length = vs.length) : L2.start N vs = vs.map some ++ List.replicate (N.length - ρ.length) none := by
  unfold L2.start
  rw [h]
theorem Rep.more (r : Rep T K G ρ σ H) (n : Nat) : Rep T K G (ρ ++ List.replicate n .un) (σ ++ List.replicate n none) H where
  len := by rw [List.length_append, List.length_append, r.len, List.length_replicate, List.length_replicate]
  slot i s hs := by
    by_cases z : i < ρ.length
    · rw [List.getElem?_append_left z] at hs
      rw [List.getElem?_append_left (by rw [← r.len]; exact z)]
      exact r.slot i s hs
    · rw [List.getElem?_append_right (by omega)] at hs
      have hl : i - ρ.length < n := by
        have := (List.getElem?_eq_some_iff.mp hs).1
        rw [List.length_replicate] at this
        exact this
      rw [List.getElem?_replicate, if_pos hl] at hs
      cases hs
      rw [List.getElem?_append_right (by rw [← r.len]; omega), ← r.len, List.getElem?_replicate, if_pos hl]
      exact ⟨none, rfl, trivial⟩
  sep i j s t a hij hi hj hs ht e1 e2 := by
    have low : ∀ {l : Nat} {u : Sl}, (ρ ++ List.replicate n .un)[l]? = some u → u.owned = true → l < ρ.length := fun {l u} hl hu => by
      by_cases z : l < ρ.length
      · exact z
      · rw [List.getElem?_append_right (by omega), List.getElem?_replicate] at hl
        split at hl
        · cases hl; cases hu
        · cases hl
    have l1 := low hi hs
    have l2 := low hj ht
    rw [List.getElem?_append_left l1] at hi
    rw [List.getElem?_append_left l2] at hj
    rw [List.getElem?_append_left (by rw [← r.len]; exact l1)] at e1
    rw [List.getElem?_append_left (by rw [← r.len]; exact l2)] at e2
    exact r.sep i j s t a hij hi hj hs ht e1 e2
  tab := r.tab
  ext := r.ext
  dom := r.dom
  fly := r.fly
  dcs := r.dcs
/-- THE RULE for a def -/
theorem fn_okD {P : Program} {w : World} {mg : Str → Option Value} {base : Heap} {x : Str} {st : Stmt} {f c : Addr} {fd : FuncData} {N ps : List Str} {k : Nat} {u : SW} (F : FunC K x st f c fd) (S : FnScope N ps (defScope st))
    (hb : ∀ (A : Around) (outer : List Env) (s : Shared) (H : Hp) (E : XK), Room k (A.deeper (envOfC x (defScope st) s.heap.objs.size f (.ref c))) →
      DSs T (cxOf (L2.CX P w) P w K mg base N x (defScope st) f (.ref c) A outer s H E) (fun cls d _ H => E cls d H) (defBody st) u) : FnOk P w K mg base (L2.CX P w) (k + 1) f fd ps (spD T K ps.length (cOf N u)) := by
  refine F.okX S (fun vs H Q E h => ?_) (fun A outer s H vs Q E hr h => ⟨_, (hb A outer s H E hr).ps, ?_⟩)
  · obtain ⟨O, ρ, h1, h2, _⟩ := h
    have := h2.len
    rw [List.length_map] at this
    omega
  · obtain ⟨O, ρ, h1, r, no, q⟩ := h
    have hl : ρ.length = vs.length := by have := r.len; rw [List.length_map] at this; exact this
    refine ⟨⟨hide O H, O, flOf T.dc O H⟩, ρ ++ List.replicate (N.length - ρ.length) .un, ?_, fun q hq j t hj ht => ?_, ?_⟩
    · rw [start_eq hl]
      exact r.more _
    · exfalso
      by_cases z : j < ρ.length
      · rw [List.getElem?_append_left z] at hj
        rw [no t (List.mem_of_getElem? hj)] at ht
        cases ht
      · rw [List.getElem?_append_right (by omega), List.getElem?_replicate] at hj
        split at hj
        · cases hj; cases ht
        · cases hj
    · refine (hb A outer s H E hr).mono _ { nx := fun _ => ∀ v H', Back T O H H' → Da K (hide O H') v .none → Q v H', rt := fun d => ∀ v H', Back T O H H' → Da K (hide O H') v d → Q v H', ex := fun x => ∀ H' cls dd, Back T O H H' → ExR K x cls dd (hide O H') → E cls dd H' } _ ⟨fun ρ' h σ' H' O' r' _ => ?_, fun d h v ρ' σ' H' O' r' a => ?_, fun _ z => z.elim, fun _ z => z.elim, fun x h ρ' σ' H' O' cls dd r' q => ?_, fun _ z => z.elim⟩ q
      · exact h .non H' (r'.back r.dom).1 .non
      · obtain ⟨b1, b2⟩ := r'.back r.dom
        exact h v H' b1 (a.ext b2)
      · obtain ⟨b1, b2⟩ := r'.back r.dom
        exact h H' cls dd b1 (exR_ext b2 q)
def ArgOk (T : Tb) (K : PySem.W.Frag) (H : Hp) : V → Sl → Prop
  | v, .sh d => Da K H v d
  | v, .dice => ∃ a, v = .ref a ∧ a ∈ T.dc
  | v, .scr ns => ∃ a, v = .ref a ∧ SqL K H a (ns.map V.int)
  | v, .rr R => RrOk K H R v
  | _, _ => False
inductive ArgsOk (T : Tb) (K : PySem.W.Frag) (H : Hp) : List V → List Sl → Prop
  | nil : ArgsOk T K H [] []
  | cons {v : V} {vs : List V} {s : Sl} {ss : List Sl} : ArgOk T K H v s → ArgsOk T K H vs ss → ArgsOk T K H (v :: vs) (s :: ss)
abbrev PWp := En → (List Sl → Prop) → (Exn → Prop) → Prop
theorem ArgOk.ext {v : V} {s : Sl} (e : ExtN H H') (h : ArgOk T K H v s) : ArgOk T K H' v s := by
  cases s with
  | sh d => exact Da.ext e h
  | dice => exact h
  | scr ns => obtain ⟨a, h1, h2⟩ := h; exact ⟨a, h1, sqL_ext e h2⟩
  | rr R => exact RrOk.ext h e
  | _ => exact h.elim
theorem ArgOk.own {v : V} {s : Sl} (h : ArgOk T K H v s) : s.owned = false := by
  cases s <;> first | rfl | exact False.elim h
theorem ArgsOk.ext {vs : List V} {ss : List Sl} (e : ExtN H H') (h : ArgsOk T K H vs ss) : ArgsOk T K H' vs ss := by
  induction h with
  | nil => exact .nil
  | cons h _ ih => exact .cons (h.ext e) ih
def liftP (T : Tb) (K : PySem.W.Frag) (W : WX) (w : PWp) : TA := fun σ H Q => ∃ G ρ, Rep T K G ρ σ H ∧ w ρ (fun ss => ∀ vs H', Rep T K G ρ σ H' → ArgsOk T K (hide G.O H') vs ss → Q vs H') (exOut T K W G ρ σ)
structure DP (T : Tb) (X : Cx) (W : WX) (es : List Expr) (w : PWp) : Prop where
  pa : PA X es (liftP T X.K W w)
  mono : Mono w
theorem pa_mono {X : Cx} {e : List Expr} {t t' : TA} (h : PA X e t) (i : ∀ σ H Q, t' σ H Q → t σ H Q) : PA X e t' := ⟨fun pos pins s σ H Q I q => h.run pos pins s σ H Q I (i _ _ _ q)⟩
def wpNil : PWp := fun _ Q _ => Q []
def wpSh (w : PW) (ws : PWp) : PWp := fun ρ Q E => w ρ (fun d => ws ρ (fun ss => Q (.sh d :: ss)) E) E
def wpDc (i : Nat) (ws : PWp) : PWp := fun ρ Q E => ρ[i]? = some .dice ∧ ws ρ (fun ss => Q (.dice :: ss)) E
theorem dp_nil : DP T X W [] wpNil := ⟨pa_mono pa_nil fun σ H Q q => by
  obtain ⟨G, ρ, r, q⟩ := q
  exact q [] H r .nil, fun _ _ _ _ _ hq _ h => hq _ h⟩
theorem dp_sh {w : PW} {ws : PWp} (h : DE T X W e w) (hr : DP T X W es ws) (hs : starEach (e :: es) X.env = (false, eval e X.env) :: starEach es X.env := by rfl) : DP T X W (e :: es) (wpSh w ws) :=
  ⟨pa_mono (pa_cons h.pe hr.pa hs) fun σ H Q q => by
    obtain ⟨G, ρ, r, q⟩ := q
    refine lift_intro h.mono r (h.mono _ _ _ _ _ (fun d hd v H1 r1 e1 a1 => ?_) (fun _ z => z) q)
    refine ⟨⟨hide G.O H1, G.O, G.fl⟩, ρ, r1.rebase, hr.mono _ _ _ _ _ (fun ss hss vs H2 r2 a2 => ?_) (fun x hx H' cls dd r' q => hx H' cls dd (r'.unbase r1.ext) q) hd⟩
    exact hss _ _ (r2.unbase r1.ext) (.cons (Da.ext r2.ext a1) a2),
   fun ρ Q Q' E E' hq he q => h.mono _ _ _ _ _ (fun d hd => hr.mono _ _ _ _ _ (fun ss hss => hq _ hss) he hd) he q⟩
theorem dp_dc {i : Nat} {ws : PWp} (h : PE X e (tVar i)) (hr : DP T X W es ws) (hs : starEach (e :: es) X.env = (false, eval e X.env) :: starEach es X.env := by rfl) : DP T X W (e :: es) (wpDc i ws) :=
  ⟨pa_mono (pa_cons h hr.pa hs) fun σ H Q q => by
    obtain ⟨G, ρ, r, hd, q⟩ := q
    obtain ⟨v, h1, a, rfl, ha⟩ := r.slot i _ hd
    refine ⟨_, h1, G, ρ, r, hr.mono _ _ _ _ _ (fun ss hss vs H2 r2 a2 => ?_) (fun x z => z) q⟩
    exact hss _ _ r2 (.cons ⟨a, rfl, ha⟩ a2),
   fun ρ Q Q' E E' hq he q => ⟨q.1, hr.mono _ _ _ _ _ (fun ss hss => hq _ hss) he q.2⟩⟩
def wpSc (i : Nat) (ws : PWp) : PWp := fun ρ Q E => ∃ ns, ρ[i]? = some (.scr ns) ∧ ws ρ (fun ss => Q (.scr ns :: ss)) E
theorem dp_sc {i : Nat} {ws : PWp} (h : PE X e (tVar i)) (hr : DP T X W es ws) (hs : starEach (e :: es) X.env = (false, eval e X.env) :: starEach es X.env := by rfl) : DP T X W (e :: es) (wpSc i ws) :=
  ⟨pa_mono (pa_cons h hr.pa hs) fun σ H Q q => by
    obtain ⟨G, ρ, r, ns, hd, q⟩ := q
    obtain ⟨v, h1, a, rfl, ha⟩ := r.slot i _ hd
    refine ⟨_, h1, ⟨hide G.O H, G.O, G.fl⟩, ρ, r.rebase, hr.mono _ _ _ _ _ (fun ss hss vs H2 r2 a2 => ?_) (fun x hx H' cls dd r' q => hx H' cls dd (r'.unbase r.ext) q) q⟩
    exact hss _ _ (r2.unbase r.ext) (.cons ⟨a, rfl, sqL_ext r2.ext ha⟩ a2),
   fun ρ Q Q' E E' hq he ⟨ns, q1, q2⟩ => ⟨ns, q1, hr.mono _ _ _ _ _ (fun ss hss => hq _ hss) he q2⟩⟩
/-- script[:e] -/
def wScr (i : Nat) (wh : PWo) : PW := fun ρ Q E => ∃ ns, ρ[i]? = some (.scr ns) ∧ wh ρ (fun h => Q (.list ((cutD (ns.map .int) none h)))) E
theorem df_scr {i : Nat} {hi : Option Expr} {p2 : Pos} {wh : PWo} (h : PE X e (tVar i)) (hh : DO T X W hi wh) : DF T X W (.Subscript e (.Slice none hi none p2) pos) (wScr i wh) := by
  obtain ⟨⟨th, ph, qh⟩, mh⟩ := hh
  refine ⟨pe_mono (pe_slice sl_list h po_none ph) fun σ H Q q => ?_, fun ρ Q Q' E E' hq he ⟨ns, q1, q2⟩ => ⟨ns, q1, mh _ _ _ _ _ (fun _ z => hq _ z) he q2⟩⟩
  obtain ⟨G, ρ, r, ns, hd, q⟩ := q
  obtain ⟨v, h1, a, rfl, ha⟩ := r.slot i _ hd
  refine ⟨_, h1, qh ⟨hide G.O H, G.O, G.fl⟩ ρ σ H _ r.rebase (mh _ _ _ _ _ (fun o ho H' r' => ?_) (fun x hx H' cls dd r' q => hx H' cls dd (r'.unbase r.ext) q) q)⟩
  have ha' : SqL X.K H' a (ns.map V.int) := by
    rcases sqL_ext r'.ext ha with z | z
    · exact .inl (z.elim (fun z => .inl (hide_some z).2) fun ⟨ob, z⟩ => .inr ⟨ob, (hide_some z).2⟩)
    · exact .inr z
  refine ⟨a, _, rfl, ha', fun p hp => ?_⟩
  obtain ⟨r2, na, ap, h1, h2⟩ := (r'.unbase r.ext).newL hp (cut_da (daAll_ints ns) none o)
  exact ho p _ _ _ rfl r2 na ap h1 h2
def wCall (n : Nat) (c : PW) (ws : PWp) : PW := fun ρ Q E => ws ρ (fun ss => ss.length = n ∧ c ss Q E) E
theorem args_rep {vs : List V} {ss : List Sl} (r : Rep T K G ρ σ H) (h : ArgsOk T K (hide G.O H) vs ss) : Rep T K ⟨hide G.O H, G.O, flOf T.dc G.O H⟩ ss (vs.map some) H ∧ ∀ s ∈ ss, s.owned = false := by
  have no : ∀ s ∈ ss, s.owned = false := by
    induction h with
    | nil => exact fun s hs => by cases hs
    | cons h _ ih =>
      intro s hs
      rcases List.mem_cons.mp hs with z | z
      · rw [z]
        exact h.own
      · exact ih s z
  have len : ss.length = vs.length := by
    clear no
    induction h with
    | nil => rfl
    | cons _ _ ih => rw [List.length_cons, List.length_cons, ih]
  have at_ : ∀ (i : Nat) (s : Sl), ss[i]? = some s → ∃ v, vs[i]? = some v ∧ ArgOk T K (hide G.O H) v s := by
    clear no len
    induction h with
    | nil => intro i s hs; simp at hs
    | cons h _ ih =>
      intro i s hs
      cases i with
      | zero => simp at hs; subst hs; exact ⟨_, rfl, h⟩
      | succ i => simpa using ih i s (by simpa using hs)
  refine ⟨⟨by rw [List.length_map]; exact len, fun i s hs => ?_, fun i j s t a hij hi hj hs ht e1 e2 => ?_, r.tab, ExtN.refl _, r.dom, fun p hp => ?_, fun a ha => ⟨(r.dcs a ha).1, (r.dcs a ha).2.1, fun q hq z => ?_⟩⟩, no⟩
  · obtain ⟨v, hv, ho⟩ := at_ i s hs
    refine ⟨some v, by rw [List.getElem?_map, hv]; rfl, ?_⟩
    cases s with
    | sh d => exact ⟨v, rfl, ho⟩
    | dice => obtain ⟨a, e, ha⟩ := ho; exact ⟨a, by rw [e], ha⟩
    | scr ns => obtain ⟨a, e, ha⟩ := ho; exact ⟨a, by rw [e], ha⟩
    | rr R => exact ⟨v, rfl, ho⟩
    | _ => exact ho.elim
  · rw [no s (List.mem_of_getElem? hi)] at hs
    cases hs
  · obtain ⟨a, o⟩ := p
    obtain ⟨h1, h2, h3⟩ := mem_flOf.mp hp
    exact ⟨h1, h3⟩
  · obtain ⟨b, o⟩ := q
    obtain ⟨h1, h2, h3⟩ := mem_flOf.mp hq
    exact h2 (by rw [show b = a from z]; exact ha)
theorem Rep.forth (r : Rep T K G ρ σ H) (b : Back T G.O H H') : Rep T K G ρ σ H' := r.stepD b.ext b.keep b.dc b.tab
theorem de_call {k n : Nat} {f : Addr} {fd : FuncData} {ps : List Str} {c : PW} {x : Str} {ws : PWp} (F : FnOk X.prog X.w X.K X.mg X.base (L2.CX X.prog X.w) k f fd ps (spD T X.K n c)) (mc : Mono c) (hr : Room k X.A) (hg : Gl X x) (hm : X.mg x = some (.ref f)) (hk : PySem.W.keepIn X.K (.ref f) = true) (hb : Binds X.K fd ps []) (tk : Takes X W)
    (h : DP T X W (e :: es) ws) (hdb : (x == ("__debug__" : Str)) = false := by decide) (he : starEach (e :: es) X.env = (false, eval e X.env) :: starEach es X.env := by rfl) (hpl : (backTo pos (starEach es X.env)).any (·.1) = false := by rfl) :
    DE T X W (.Call (.Name x p) (e :: es) [] pos) (wCall n c ws) :=
  ⟨pe_mono (pe_callS (E := WE W) F hr hg hm hk hb (fun σ => passAt tk σ) h.pa hdb he hpl) fun σ H Q q => by
    obtain ⟨G, ρ, r, q⟩ := q
    refine ⟨G, ρ, r, h.mono _ _ _ _ _ (fun ss hss vs H1 r1 a1 => ?_) (fun _ z => z) q⟩
    obtain ⟨r2, no⟩ := args_rep r1 a1
    exact ⟨G.O, ss, hss.1, r2, no, mc _ _ _ _ _ (fun d hd v H' bk a => hd v H' (r1.forth bk) a) (fun x hx H' cls dd bk q => hx H' cls dd (r1.forth bk) q) hss.2⟩,
   fun ρ Q Q' E E' hq he q => h.mono _ _ _ _ _ (fun ss hss => ⟨hss.1, mc _ _ _ _ _ hq he hss.2⟩) he q⟩
end
end PL
set_option Elab.async false
set_option linter.all false
set_option maxRecDepth 100000
set_option maxHeartbeats 2000000
set_option Elab.async false
set_option linter.all false
set_option maxRecDepth 100000
set_option maxHeartbeats 2000000
namespace PL
open PySem PySem.Spec PyProof.Rows L2
open LamX (ExtN Tabs TabS)
section
variable {T : Tb} {X : Cx} {W : WX} {pos p p2 pos2 pos' apos : Pos} {e a b : Expr} {es : List Expr} {st : Stmt} {rest : List Stmt} {K : PySem.W.Frag} {G G2 : Gh} {ρ ρ2 : En} {σ σ2 : L2.St} {H H' : Hp} {D : Ends}
theorem rep_zero {α : Type} (c : Array α) (h : c.size = 0) : ∀ (n : Nat) (acc : Array α), (List.replicate n c).foldl (· ++ ·) acc = acc
  | 0, acc => rfl
  | n + 1, acc => by
    have e : c = #[] := Array.eq_empty_of_size_eq_zero h
    rw [List.replicate_succ, List.foldl_cons, rep_zero c h n, e, Array.append_empty]
theorem rep_size {α : Type} (c : Array α) : ∀ (n : Nat) (acc : Array α), ((List.replicate n c).foldl (· ++ ·) acc).size = acc.size + n * c.size
  | 0, acc => by simp
  | n + 1, acc => by
    rw [List.replicate_succ, List.foldl_cons, rep_size c n, Array.size_append, Nat.add_mul]
    omega
theorem mul_strR {M : Program} {w : World} {A : Around} {E : Value → Shared → Prop} {s : Shared} {x : Str} {n : Int} {t u : Tok} {Q : Value → Shared → Prop} (h : -(2 ^ 63) ≤ n ∧ x.length * n.toNat ≤ sizeLine ∧ n < 2 ^ 20)
    (q : (∀ t', Q (.str (repS x n.toNat) t') { s with toks := s.toks + 1 }) ∧ ∀ t', Q (.str (repS x n.toNat) t') s) : wpAny (model M w) A (binaryOp .Mult (.str x t) (.int n u)) Q E s := by
  obtain ⟨h1, h2, h3⟩ := h
  have hz : (repS x n.toNat).length = n.toNat * x.length := by
    show ((List.replicate n.toNat x.cps).foldl (· ++ ·) #[]).size = _
    rw [rep_size]
    exact Nat.zero_add _
  refine PySem.P.mul_str ?_ (fun hn _ => ?_) (fun hn _ => ?_) ?_
  · rw [Bool.or_eq_false_iff]
    exact ⟨decide_eq_false (by omega), decide_eq_false (by omega)⟩
  · have hx : x.length ≤ sizeLine := by
      have : 1 ≤ n.toNat := by omega
      calc x.length = x.length * 1 := (Nat.mul_one _).symm
        _ ≤ x.length * n.toNat := Nat.mul_le_mul_left _ this
        _ ≤ _ := h2
    rw [sizeLine_eq] at hx
    have : (16777216 : Int) ≤ (2 ^ 63 - 1) / n := by
      rw [Int.le_ediv_iff_mul_le (by omega)]
      omega
    omega
  · show decide (_ > sizeLine) = false
    exact decide_eq_false (by omega)
  · by_cases c : n < 1
    · rw [if_pos c]
      have e : n.toNat = 0 := by omega
      have e2 : repS x n.toNat = Str.empty := by rw [e]; rfl
      rw [e2] at q
      exact ⟨by decide, q.1 _⟩
    · rw [if_neg c]
      by_cases c2 : (n == 1 || x.length == 0) = true
      · rw [if_pos c2]
        have e2 : repS x n.toNat = x := by
          rcases Bool.or_eq_true_iff.mp c2 with c3 | c3
          · have : n = 1 := by simpa using c3
            subst this
            show Str.mk ((List.replicate 1 x.cps).foldl (· ++ ·) #[]) = x
            simp
          · have h0 : x.cps.size = 0 := eq_of_beq c3
            have : x.cps = #[] := Array.eq_empty_of_size_eq_zero h0
            show Str.mk ((List.replicate n.toNat x.cps).foldl (· ++ ·) #[]) = x
            rw [rep_zero _ h0, ← this]
        rw [e2] at q
        exact q.2 _
      · rw [if_neg c2]
        refine ⟨?_, q.1 _⟩
        show (repS x n.toNat).length ≤ _
        rw [hz, Nat.mul_comm]
        exact h2
theorem opD_mul : OpD T X (binaryOp .Mult) fMul := by
  intro pins s σ0 H x y v u Q I rx ry q
  obtain ⟨G, ρ, σ, d, e, r, tx, ty, q⟩ := q
  unfold fMul at q
  split at q
  · rename_i i j
    exact op_mul pins s σ0 H x y v u Q I rx ry ⟨i, j, tx.int, ty.int, q.1, q.2 _ H r (.int _)⟩
  · rename_i i j
    rw [tx.str] at rx
    rw [ty.int] at ry
    obtain ⟨t, rfl⟩ := rx
    obtain ⟨t', rfl⟩ := ry
    exact mul_strR q.1 ⟨fun t' => ⟨.str _, H, I.tok _, ⟨_, rfl⟩, q.2 _ H r (.str _)⟩, fun t' => ⟨.str _, H, I, ⟨_, rfl⟩, q.2 _ H r (.str _)⟩⟩
  · exact q.elim
def wDix (i : Nat) (k : Nat) : PW := fun ρ Q _ => ρ[i]? = some .dice ∧ k < 3 ∧ ∀ n : Int, Q (.int n)
theorem de_dix {i k j : Nat} (h : PE X a (tVar i)) : DE T X W (.Subscript a (.Constant (.int (k : Nat)) j p) pos) (wDix i k) := ⟨pe_mono (pe_ix ix_list h pe_int (fun _ _ => rfl)) fun σ H Q q => by
    obtain ⟨G, ρ, r, hd, hk, q⟩ := q
    obtain ⟨v, h1, b, rfl, hb⟩ := r.slot i _ hd
    obtain ⟨_, ⟨x, y, z, hH⟩, _⟩ := r.dcs b hb
    have three : k = 0 ∨ k = 1 ∨ k = 2 := by omega
    rcases three with rfl | rfl | rfl
    · exact ⟨_, h1, b, _, _, .int x, rfl, rfl, SqL.of hH, rfl, q x _ H r (.int _)⟩
    · exact ⟨_, h1, b, _, _, .int y, rfl, rfl, SqL.of hH, rfl, q y _ H r (.int _)⟩
    · exact ⟨_, h1, b, _, _, .int z, rfl, rfl, SqL.of hH, rfl, q z _ H r (.int _)⟩, fun ρ Q Q' E E' hq _ q => ⟨q.1, q.2.1, fun n => hq _ (q.2.2 n)⟩⟩
def sDst (i k : Nat) (w : PW) : SW := fun ρ D => ρ[i]? = some .dice ∧ k < 3 ∧ w ρ (fun d => match d with | .int _ => D.nx ρ | _ => False) D.ex
theorem ds_dst {i k j : Nat} {w : PW} (ho : PE X a (tVar i)) (h : DE T X W e w) (hs : swapsWithSole [.Subscript a (.Constant (.int (k : Nat)) j p2) p] e pos.line X.env = pure false := by rfl) (hw : swappedStores [.Subscript a (.Constant (.int (k : Nat)) j p2) p] e X.env = pure none := by rfl)
    (h1 : (assignEach [.Subscript a (.Constant (.int (k : Nat)) j p2) p] X.env).map (·.2) = [assign (.Subscript a (.Constant (.int (k : Nat)) j p2) p) X.env] := by rfl)
    (ha : ∀ v, assign (.Subscript a (.Constant (.int (k : Nat)) j p2) p) X.env v = (do
      let ov ← holding [v] (eval a X.env)
      let iv ← holding [v, ov] (eval (.Constant (.int (k : Nat)) j p2) X.env)
      standAt p
      holding [v, ov, iv] (setItem ov iv v)
      release [v, ov, iv] []) := by intro _; rfl) : DS T X W (.Assign [.Subscript a (.Constant (.int (k : Nat)) j p2) p] e pos) (sDst i k w) :=
  ⟨ps_mono (ps_asg h.pe (pg_sub ho pe_int set_list ha) hs hw h1) fun D σ H q => by
    obtain ⟨G, ρ, r, fa, hd, hk, q⟩ := q
    refine ⟨G, ρ, r, h.mono _ _ _ _ _ (fun d hd' v H1 r1 a1 => ?_) (fun _ z => ex_out' z) q⟩
    cases a1 with
    | int n =>
      obtain ⟨v, hv, b, rfl, hb⟩ := r1.slot i _ hd
      obtain ⟨hO, ⟨x, y, z, hH⟩, hfl⟩ := r1.dcs b hb
      have fin : ∀ x' y' z' : Int, D.nx σ (upd H1 b (.lst [.int x', .int y', .int z'])) := fun x' y' z' => by
        refine hd' σ _ G.O (r1.stepD (by rw [hide_upd hO]; exact ExtN.refl _) (fun c _ nc => upd_ne fun e => nc (by rw [e]; exact hb)) (fun c hc => ?_) (r1.tab.upd hH (.inl ⟨_, rfl⟩))) fa
        by_cases e : c = b
        · subst e; exact ⟨_, _, _, upd_same⟩
        · rw [upd_ne e]; exact (r1.dcs c hc).2.1
      have three : k = 0 ∨ k = 1 ∨ k = 2 := by omega
      rcases three with rfl | rfl | rfl
      · exact ⟨_, hv, b, _, _, 0, rfl, rfl, hH, rfl, fin n y z⟩
      · exact ⟨_, hv, b, _, _, 1, rfl, rfl, hH, rfl, fin x n z⟩
      · exact ⟨_, hv, b, _, _, 2, rfl, rfl, hH, rfl, fin x y n⟩
    | _ => exact hd'.elim, fun ρ D D' l q => ⟨q.1, q.2.1, h.mono _ _ _ _ _ (fun d hd => by cases d <;> first | exact l.nx _ hd | exact hd) l.ex q.2.2⟩⟩
end
end PL
set_option Elab.async false
set_option linter.all false
set_option maxRecDepth 100000
set_option maxHeartbeats 2000000
namespace PL
open PySem PySem.Spec PyProof.Rows L2 LamX
/-- all but the table at P stays -/
def ExtB (P : Addr) (H H' : Hp) : Prop := ∀ b o, b ≠ P → H b = some o → H' b = some o
section
variable {X : Cx} {pins : List (Addr × Obj)} {σ : L2.St} {H : Hp} {s : Shared} {T : Tb}
theorem lam_new {c P : Addr} {params : Arguments} {body : Expr} {scope : Scope} {pos : Pos} {E : Value → Shared → Prop} {Q : Value → Shared → Prop} (I : Inv X pins σ H s) (B : TabB X.base X.mg c P) (hcode : X.env.code = .ref c) (hm : (P, X.env.qual ++ "<lambda>") ∈ T.tl)
    (hu : ∀ p ∈ T.tl, p.1 = P → p.2 = X.env.qual ++ "<lambda>") (hg : P ∉ T.tg ++ T.tn) (hT : TOk T H) (hdef : defaultsOf params X.env = ([], [])) (hfree : ∀ y ∈ scope.names, y.2 = .free → ∃ c, X.env.cells.lookup y.1 = some c)
    (h : ∀ (f c' : Addr) (pm ctv : Value) (H1 : Hp) (s' : Shared), Inv X pins σ H1 s' → ExtB P H H1 → TOk T H1 → s'.heap.get? f = some (PySem.W.kla_obj "<lambda>" (X.env.qual ++ "<lambda>") params body scope (cloFrom X.env.cells scope.names []) pm c' ctv) → H1 f = none → f ∉ frs X.stack →
      H1 c' = some (CodeO c' (X.env.qual ++ "<lambda>")) → s.heap.objs.size ≤ f → Q (.ref f) s') : wpAny (model X.prog X.w) X.A (eval (.Lambda params body scope pos) X.env) Q E s := by
  obtain ⟨ps, hP, ht, ha⟩ := hT.l _ hm
  have atP : s.heap.get? P = some { cls := .none, data := .fields ps } := I.hok P _ hP
  have far : ∀ f, s.heap.objs.size ≤ f → f ∉ frs X.stack := fun f hf z => (List.mem_cons.mp (I.stkSub _ z)).elim (fun e => Nat.lt_irrefl _ (Nat.lt_of_lt_of_le (by rw [e]; exact I.lt) hf)) (fun e => I.nofs hf e)
  refine PySem.W.kla_eval hdef ?_
  cases hc : codeAmong pos ps.toList with
  | some cv =>
    obtain ⟨c', rfl, hco⟩ := ha pos cv hc
    refine PySem.W.kla_makeFunctionHit (mg := X.mg) (c := c) (P := P) (ps := ps) (closure_ok hfree) I.ok.glob (I.mod.glob.keeps I.bk) hcode (B.code.keeps I.bk) atP ht hc (B.bm.keeps I.bk) fun ctv h' tk hx hsz => ?_
    have I1 : Inv X pins σ H { s with heap := h'.push (PySem.W.kla_obj "<lambda>" (X.env.qual ++ "<lambda>") params body scope (cloFrom X.env.cells scope.names []) ((X.mg "__name__").getD .none) c' ctv), toks := tk } := I.kept fun b o e => Heap.get?_push_of_some _ (hx b o e)
    exact h _ c' _ ctv H _ I1 (fun b o _ e => e) hT (Heap.get?_push_size _ rfl) (I.hok.fresh hsz) (far _ hsz) hco hsz
  | none =>
    refine PySem.W.kla_makeFunction (mg := X.mg) (c := c) (P := P) (ps := ps) (closure_ok hfree) I.ok.glob (I.mod.glob.keeps I.bk) hcode (B.code.keeps I.bk) atP ht hc B.gP (B.bm.keeps I.bk) fun c' ctv h' tk hx hge hlt hrec htb => ?_
    obtain ⟨c2, oc, vs, t, e2, hoc, hd, hv⟩ := hrec
    cases e2
    have big : s.heap.objs.size ≤ h'.objs.size := Nat.le_trans hge (Nat.le_of_lt hlt)
    have new : H c' = none := I.hok.fresh hge
    have I1 := inv_table (t' := tk) (q := X.env.qual ++ "<lambda>") (more := #[rawInt pos.line, rawInt pos.col, .ref c']) (h' := h'.push (PySem.W.kla_obj "<lambda>" (X.env.qual ++ "<lambda>") params body scope (cloFrom X.env.cells scope.names []) ((X.mg "__name__").getD .none) c' ctv)) I hP (fun b o hb e => Heap.get?_push_of_some _ (hx b o hb e)) (Heap.get?_push_of_some _ htb) hge ⟨oc, vs, t, Heap.get?_push_of_some _ hoc, hd, hv⟩
    have keep : ExtB P H (upd (upd H P (.tbl (ps ++ #[rawInt pos.line, rawInt pos.col, .ref c']))) c' (CodeO c' (X.env.qual ++ "<lambda>"))) := fun b o hb e => by rw [upd_ne (ne_of_none e new), upd_ne hb]; exact e
    have codeK : ∀ {c0 q}, H c0 = some (CodeO c0 q) → c0 ≠ P := fun {c0 q} e z => by rw [z, hP] at e; exact codeO_ne ps (Option.some.inj e).symm
    have el : (ps ++ #[rawInt pos.line, rawInt pos.col, .ref c']).toList = ps.toList ++ [rawInt pos.line, rawInt pos.col, .ref c'] := by simp
    have nP : P ≠ c' := ne_of_none hP new
    have hap : P ∈ T.ap := List.mem_append_left _ (List.mem_map.mpr ⟨_, hm, rfl⟩)
    have keepC : ∀ {c P'}, CdAt H c P' → CdAt _ c P' := fun {c0 P'} ⟨oc, h1, h2⟩ => ⟨oc, keep c0 _ (fun z => by rw [z, hP] at h1; cases h1) h1, h2⟩
    refine h h'.objs.size c' _ ctv _ _ I1 keep ⟨fun P' hP' => ?_, fun p hp => ?_, fun P' hP' => ?_, fun q hq => keepC (hT.c q hq), fun q hq => ⟨keep _ _ (fun z => by
      obtain ⟨h1, h2⟩ := hT.k q hq
      rw [z, hP] at h1
      rcases h2 with ⟨oc, h2⟩ | ⟨s, h2⟩
      · rw [h2] at h1; cases h1
      · rw [h2] at h1; exact codeO_ne ps (Option.some.inj h1).symm) (hT.k q hq).1, (hT.k q hq).2⟩⟩ (Heap.get?_push_size _ rfl) ?_ (far _ big) upd_same big
    · obtain ⟨ps', h1, h2⟩ := hT.g P' hP'
      exact ⟨ps', keep _ _ (fun z => hg (List.mem_append_left _ (by rw [← z]; exact hP'))) h1, h2⟩
    · by_cases hb : p.1 = P
      · rw [hu p hp hb, hb]
        refine ⟨_, by rw [upd_ne nP, upd_same], by rw [el]; exact TriplesOk_snoc _ _ _ _ ht, fun p' cv hcv => ?_⟩
        rw [el] at hcv
        exact (among_app _ ht hcv).elim (fun z => by obtain ⟨c0, e1, e2⟩ := ha p' cv z; exact ⟨c0, e1, keep _ _ (codeK e2) e2⟩) fun z => ⟨c', z, upd_same⟩
      · obtain ⟨ps', a1, a2, a3⟩ := hT.l p hp
        exact ⟨ps', keep _ _ hb a1, a2, fun p' cv hcv => by obtain ⟨c0, e1, e2⟩ := a3 p' cv hcv; exact ⟨c0, e1, keep _ _ (codeK e2) e2⟩⟩
    · obtain ⟨ps', a1, a2, a3⟩ := hT.n P' hP'
      refine ⟨ps', keep _ _ (fun z => hg (List.mem_append_right _ (by rw [← z]; exact hP'))) a1, a2, fun p' cv hcv => ?_⟩
      obtain ⟨c0, P0, e1, e2, ⟨ps0, e3, e4⟩, e5⟩ := a3 p' cv hcv
      exact ⟨c0, P0, e1, keepC e2, ⟨ps0, keep _ _ (fun z => e5 (by rw [z]; exact hap)) e3, e4⟩, e5⟩
    · rw [upd_ne (Nat.ne_of_gt hlt), upd_ne (Nat.ne_of_gt (Nat.lt_of_lt_of_le (Heap.lt_size atP) big))]
      exact I.hok.fresh big
def tLamB (T : Tb) (P : Addr) (TT : (XK → Hp → VK → Prop) → Hp → VK → Prop) (t : XK → TE) : TE := fun σ H Q => TOk T H ∧ ∀ H1, ExtB P H H1 → TOk T H1 → TT (fun E H' Q' => t E σ H' Q') H1 Q
theorem pe_lamB {TT : (XK → Hp → VK → Prop) → Hp → VK → Prop} {x a : Str} {g c P cg : Addr} {k : Nat} {stg : Stmt} {fdg : FuncData} {Ng : List Str} {params : Arguments} {body : Expr} {scope : Scope} {t : XK → TE} {p lpos pos : Pos} (hgl : Gl X x) (hmg : X.mg x = some (.ref g)) (F : FunC X.K x stg g cg fdg)
    (hb : L2.Binds X.K fdg [a] []) (Sg : FnScope Ng [a] (defScope stg)) (hNg : Ng[0]? = some a) (hva : Vis (defScope stg) a) (hG : GivesTo X Ng x (defScope stg) g (.ref cg) (defBody stg) a (X.env.qual ++ "<lambda>") TT)
    (B : TabB X.base X.mg c P) (hcode : X.env.code = .ref c) (hmT : (P, X.env.qual ++ "<lambda>") ∈ T.tl) (hu : ∀ p ∈ T.tl, p.1 = P → p.2 = X.env.qual ++ "<lambda>") (hnt : P ∉ T.tg ++ T.tn) (hr : Room (k + 2) X.A) (L : LamS X.env.scope scope) (hdef : defaultsOf params X.env = ([], []))
    (hbind : ∀ (q : Str) (cl : List (Str × Addr)) (pm cv ctv : Value), bindArgs (PySem.W.kla_fn "<lambda>" q params body scope cl pm cv ctv) ⟨[], []⟩ = pure [])
    (hbody : ∀ (A : Around) (outer : List Env) (s : Shared) (H : Hp) (E : XK) (f c' : Addr), Room k (A.deeper (lamEnv X scope s.heap.objs.size f c')) → PE (lamCx X A outer s H E scope f c') body (t E))
    (hdb : (x == ("__debug__" : Str)) = false := by decide) (hd : (a == ("__debug__" : Str)) = false := by decide) (hcd : (a == ("__classdict__" : Str)) = false := by decide) : PE X (.Call (.Name x p) [.Lambda params body scope lpos] [] pos) (tLamB T P TT t) := by
  obtain ⟨oc, od, kV, doc, pm, an, ct, osl, rfl, lk, hcg⟩ := F.ex
  refine ⟨fun pins s σ H Q I ⟨hT, h⟩ => wpAny_Call_Name_kw (ld_glob I hgl hmg ?_ hdb)⟩
  refine PySem.W.callWith_K (h₀ := X.base) I.ok.mod.kin F.kp ?_ (by rfl) (by rfl)
  show wpAny _ _ (spliced ((false, eval (.Lambda params body scope lpos) X.env) :: backTo pos (starEach [] X.env))) _ _ s
  refine Calls.spliced_cons (lam_new I B hcode hmT hu hnt hT hdef (L.has I.ok) fun f c' pm' ctv H1 s' I1 eN T1 hf hfn hfr hco _ => Calls.spliced_nil ⟨I1.kIn, ?_⟩)
  have run : codeAny (model X.prog X.w) X.A (.call (.ref g) ⟨[.ref f], []⟩) (CR C8.CX0 X.stack X.prog X.w H1 s' Q C8.E0) s' := run_ofS (N := Ng) (ps := [a]) (us := [.ref f]) (vs := [.ref f]) lk hcg Sg hr I1.env0 (hb s' [.ref f] I1.kIn rfl) (.cons rfl .nil) rfl fun hr' => by
    obtain ⟨t', ht', hq'⟩ := hG f c' s' H1 Q (fun E H' Q' => t E σ H' Q') (fun W pn xe E p1 p2 tk hW => pe_act (i := 0) I1 L hf hfn hfr (hbind _ _ _ _ _) tk hW hr' (fun A outer s H hr2 => hbody A outer s H E f c' hr2) hNg hva hd hcd) hco (h H1 eN T1)
    exact ⟨t', ht'.nox, hq'⟩
  refine wpAny_call (codeAny_mono run fun r s2 hq => ?_)
  cases r with
  | error e => exact False.elim hq
  | ok fl => cases fl with
    | ret u => exact I1.after hq
    | next => exact False.elim hq
    | brk => exact False.elim hq
    | cont => exact False.elim hq
theorem Rep.extB {P : Addr} {K : PySem.W.Frag} {G : Gh} {ρ : En} {H' : Hp} {nm : Str} (r : Rep T K G ρ σ H) (hP : TabS H P nm) (e : ExtB P H H') (t : TOk T H') : Rep T K G ρ σ H' := by
  obtain ⟨ps, h1, _⟩ := hP
  have ne : ∀ {b o}, H b = some o → (∀ ps, o ≠ .tbl ps) → b ≠ P := fun {b o} h hn z => by rw [z, h1] at h; exact hn _ (Option.some.inj h).symm
  exact r.step (ext_hide fun b o _ h hn => e _ _ (ne h hn) h) (fun a ha => by obtain ⟨o, h, hn⟩ := r.dom a ha; rw [h, e _ _ (ne h hn) h]) t
end
end PL
set_option Elab.async false
set_option linter.all false
set_option maxRecDepth 100000
set_option maxHeartbeats 2000000
namespace PL
open PySem PySem.Spec PyProof.Rows L2
open LamX (ExtN Tabs TabS)
def lawEnd (n : Nat) : PEn where
  nx ρ := ρ.length = n
  rt d := d = .bool true
  bk _ := False
  ct ρ := ρ.length = n
  ex _ := False
def uns (n : Nat) : En := List.replicate n .un
def Triples (ds : List PyData) : Prop := ∀ d ∈ ds, ∃ x y z : Int, d = .list [.int x, .int y, .int z]
section
variable {T : Tb} {X : Cx} {W : WX} {pos p p2 pos2 pos' apos : Pos} {e a b tg iter : Expr} {es : List Expr} {body : List Stmt} {K : PySem.W.Frag} {G G2 : Gh} {ρ ρ2 : En} {σ σ2 : L2.St} {H H' : Hp} {D : Ends}
def tDices (T : Tb) (K : PySem.W.Frag) (W : WX) (wi : PW) (i n : Nat) (bw : SW) : TS := fun D σ H => ∃ G ρ, Rep T K G ρ σ H ∧ ρ.length = n ∧ T.dc = [] ∧
  wi ρ (fun d => ∃ ds, d = .list ds ∧ Triples ds ∧ bw ((uns n).set i .dice) (lawEnd n)) (fun _ => False) ∧ (∀ σ' H', D.nx σ' H') ∧ ∀ H', D.rt (.bl true) H'
theorem Rep.forget (r : Rep T K G ρ σ H) {n : Nat} (hn : ρ.length = n) : Rep T K G (uns n) σ H where
  len := by rw [← r.len, hn]; exact List.length_replicate
  slot i s hs := by
    have hi : i < n := by
      have := (List.getElem?_eq_some_iff.mp hs).1
      rwa [uns, List.length_replicate] at this
    rw [uns, List.getElem?_replicate, if_pos hi] at hs
    cases hs
    have hl : i < σ.length := by rw [← r.len, hn]; exact hi
    exact ⟨_, List.getElem?_eq_getElem hl, trivial⟩
  sep i j s t a hij hi hj hs ht e1 e2 := by
    rw [uns, List.getElem?_replicate] at hi
    split at hi
    · cases hi; cases hs
    · cases hi
  tab := r.tab
  ext := r.ext
  dom := r.dom
  fly := r.fly
  dcs := r.dcs
theorem triple_of {v : V} {d : PyData} (h : Da K H v d) (t : ∃ x y z : Int, d = .list [.int x, .int y, .int z]) : ∃ b x y z, v = .ref b ∧ H b = some (.lst [.int x, .int y, .int z]) := by
  obtain ⟨x, y, z, rfl⟩ := t
  cases h with
  | lst h1 h2 =>
    cases h2 with
    | cons a1 h2 => cases h2 with
      | cons a2 h2 => cases h2 with
        | cons a3 h2 =>
          cases h2
          cases a1; cases a2; cases a3
          exact ⟨_, x, y, z, rfl, h1⟩
theorem triples_of : ∀ {vs : List V} {ds : List PyData}, DaAll K H vs ds → Triples ds → ∃ dc : List Addr, vs = dc.map V.ref ∧ ∀ b ∈ dc, ∃ x y z, H b = some (.lst [.int x, .int y, .int z])
  | _, _, .nil, _ => ⟨[], rfl, fun b hb => by cases hb⟩
  | _, _, .cons h r, t => by
    obtain ⟨b, x, y, z, rfl, hb⟩ := triple_of h (t _ List.mem_cons_self)
    obtain ⟨dc, rfl, hd⟩ := triples_of r fun d hd => t d (List.mem_cons_of_mem _ hd)
    exact ⟨b :: dc, rfl, fun c hc => by
      rcases List.mem_cons.mp hc with z' | z'
      · rw [z']; exact ⟨x, y, z, hb⟩
      · exact hd c z'⟩
theorem ps_dices {i n : Nat} {wi : PW} {bw : SW} (hp : PassesOwn (model X.prog X.w) X.A X.env X.xe) (hc : X.calm = true) (hin : i < n) (hi : DE T X W iter wi) (hg : PG X tg (gName i)) (hb : ∀ dc, DSs { T with dc := dc } X W body bw)
    (hs : ∀ x, foldedSetIterable iter X.env x = pure x := by intro _; rfl) : PS X (.For tg iter body [] pos) (tDices T X.K W wi i n bw) :=
  ps_mono (ps_for hp hc (pi_list hi.pe) hg (tb := fun D σ H => ∃ dc, liftS { T with dc := dc } X.K W bw D σ H) ⟨fun pins s σ H Q I ⟨dc, q⟩ => (hb dc).ps.run pins s σ H Q I q⟩ hs) fun D σ H q => by
    obtain ⟨G, ρ, r, hn, hdc, q, qn, qr⟩ := q
    refine ⟨G, ρ, r, hi.mono _ _ _ _ _ (fun d hd v H1 r1 a1 => ?_) (fun _ z => z.elim) q⟩
    obtain ⟨ds, rfl, tr, hw⟩ := hd
    cases a1 with
    | lst h1 h2 =>
      rename_i a vs
      obtain ⟨dc, rfl, hd⟩ := triples_of h2 tr
      obtain ⟨naO, hA⟩ := hide_some h1
      have nad : a ∉ dc := fun z => by
        obtain ⟨x, y, u, e⟩ := hd a z
        rw [h1] at e
        cases dc with
        | nil => cases z
        | cons c t => cases e
      let Hb : Hp := fun b => if b = a then some (.lst (dc.map V.ref)) else none
      have r2 : Rep { T with dc := dc } X.K ⟨Hb, G.O ++ dc, []⟩ (uns n) σ H1 := {
        len := (r1.forget hn).len
        slot := fun i s hs => by
          obtain ⟨v, h3, h4⟩ := (r1.forget hn).slot i s hs
          have hi : i < n := by
            have := (List.getElem?_eq_some_iff.mp hs).1
            rwa [uns, List.length_replicate] at this
          rw [uns, List.getElem?_replicate, if_pos hi] at hs
          cases hs
          exact ⟨v, h3, trivial⟩
        sep := (r1.forget hn).sep
        tab := ⟨r1.tab.g, r1.tab.l, r1.tab.n, r1.tab.c, r1.tab.k⟩
        ext := fun b o hb _ => by
          have hb : Hb b = some o := hb
          show hide (G.O ++ dc) H1 b = some o
          by_cases z : b = a
          · subst z
            rw [show Hb b = some (.lst (dc.map V.ref)) from if_pos rfl] at hb
            cases hb
            rw [hide_out (fun z => (List.mem_append.mp z).elim naO nad)]
            exact hA
          · rw [show Hb b = none from if_neg z] at hb
            cases hb
        dom := fun b hb => by
          rcases List.mem_append.mp hb with z | z
          · exact r1.dom b z
          · obtain ⟨x, y, u, e⟩ := hd b z
            exact ⟨_, (hide_some e).2, nt_of rfl⟩
        fly := fun p hp => by cases hp
        dcs := fun b hb => ⟨List.mem_append_right _ hb, by obtain ⟨x, y, u, e⟩ := hd b hb; exact ⟨x, y, u, (hide_some e).2⟩, fun q hq => by cases hq⟩ }
      refine ⟨a, rfl, ⟨_, SqL.of hA⟩, fun k m σ' H' => m = dc.length - k ∧ ∃ O', Rep { T with dc := dc } X.K ⟨Hb, O', []⟩ (uns n) σ' H', ⟨_, rfl, _, r2⟩, fun k m σ' H' hW => ?_⟩
      obtain ⟨rfl, O', r3⟩ := hW
      have hA' : H' a = some (.lst (dc.map V.ref)) := (hide_some (r3.ext a _ (if_pos rfl) fun ps e => by cases e)).2
      by_cases hk : k < dc.length
      · have hx : (dc.map V.ref)[k]? = some (V.ref dc[k]) := by rw [List.getElem?_map, List.getElem?_eq_getElem hk]; rfl
        refine .inr ⟨⟨_, _, SqL.of hA', hx⟩, fun σ'' H'' => ∃ O'', Rep { T with dc := dc } X.K ⟨Hb, O'', []⟩ (uns n) σ'' H'', fun σ'' H'' h => ⟨dc.length - (k + 1), by omega, rfl, h⟩, fun x H3 hy => ?_⟩
        obtain ⟨rfl, hx2⟩ := hy
        have ex : x = V.ref dc[k] := Option.some.inj ((hx2 _ (SqL.of hA')).symm.trans hx)
        subst ex
        have r4 := r3.setSl (i := i) (v := V.ref dc[k]) (s := .dice) ⟨dc[k], rfl, List.getElem_mem hk⟩ (fun z => by cases z)
        refine ⟨dc, ⟨Hb, O', []⟩, _, r4, (fun q hq => by cases hq), (hb dc).mono _ (lawEnd n) _ ⟨fun ρ3 h3 σ3 H3 O3 r5 _ => ⟨O3, r5.forget h3⟩, fun d hd v ρ3 σ3 H3 O3 r5 a5 => ?_, fun _ z => z.elim, fun ρ3 h3 σ3 H3 O3 r5 _ => ⟨O3, r5.forget h3⟩, fun _ z => z.elim, fun _ z => z.elim⟩ hw⟩
        have hd : d = .bool true := hd
        subst hd
        cases a5
        exact qr H3
      · refine .inl ⟨⟨_, SqL.of hA', by rw [List.length_map]; omega⟩, qn _ _⟩
    | _ => cases ‹PyData.list ds = _›
theorem law_okD {P : Program} {w : World} {mg : Str → Option Value} {base : Heap} {st : Stmt} {f c : Addr} {fd : FuncData} {N : List Str} {k i j : Nat} {wi : PW} {bw : SW} (F : FunC K "law" st f c fd) (S : FnScope N ["script"] (defScope st)) (hN : 0 < N.length) (hin : i < N.length) (hdc : T.dc = [])
    (htx : defBody st = [.For tg iter body [] pos, .Return (some (.Constant (.bool true) j p)) p2])
    (hi : ∀ (A : Around) (outer : List Env) (s : Shared) (H : Hp) (E : XK), Room k (A.deeper (envOfC "law" (defScope st) s.heap.objs.size f (.ref c))) → DE T (cxOf (L2.CX P w) P w K mg base N "law" (defScope st) f (.ref c) A outer s H E) (fun cls d _ H => E cls d H) iter wi)
    (hg : ∀ (A : Around) (outer : List Env) (s : Shared) (H : Hp) (E : XK), PG (cxOf (L2.CX P w) P w K mg base N "law" (defScope st) f (.ref c) A outer s H E) tg (gName i))
    (hb : ∀ (A : Around) (outer : List Env) (s : Shared) (H : Hp) (E : XK) dc, Room k (A.deeper (envOfC "law" (defScope st) s.heap.objs.size f (.ref c))) → DSs { T with dc := dc } (cxOf (L2.CX P w) P w K mg base N "law" (defScope st) f (.ref c) A outer s H E) (fun cls d _ H => E cls d H) body bw)
    (hs : ∀ (A : Around) (outer : List Env) (s : Shared) (H : Hp) (E : XK) x, foldedSetIterable iter (cxOf (L2.CX P w) P w K mg base N "law" (defScope st) f (.ref c) A outer s H E).env x = pure x := by intros; rfl)
    (hpure : ∀ ns : List Int, ns.length ≤ 63 → wi (.scr ns :: uns (N.length - 1)) (fun d => ∃ ds, d = .list ds ∧ Triples ds ∧ bw ((uns N.length).set i .dice) (lawEnd N.length)) (fun _ => False)) :
    FnOk P w K mg base (L2.CX P w) (k + 1) f fd ["script"] (fun vs H Q _ => ∃ (a : Addr) (ns : List Int), vs = [.ref a] ∧ ns.length ≤ 63 ∧ SqL K H a (ns.map V.int) ∧ TOk T H ∧ ∀ H', Q (.bl true) H') := by
  refine F.okX S (fun vs H Q E h => ?_) (fun A outer s H vs Q E hr h => ?_)
  · obtain ⟨a, ns, rfl, _⟩ := h
    rfl
  · obtain ⟨a, ns, rfl, hl, hS, ht, hQ⟩ := h
    rw [htx]
    refine ⟨_, pss_cons (ps_dices (T := T) (n := N.length) (passes_of rfl) rfl hin (hi A outer s H E hr) (hg A outer s H E) (fun dc => hb A outer s H E dc hr) (hs A outer s H E)) (pss_one (ps_ret pe_bl)), ?_⟩
    refine ⟨⟨fun _ => none, [], []⟩, .scr ns :: uns (N.length - 1), ?_, ?_, hdc, hpure ns hl, fun σ' H' => hQ H', fun H' => hQ H'⟩
    · have e : L2.start N [V.ref a] = ([V.ref a].map some) ++ List.replicate (N.length - 1) none := rfl
      rw [e]
      refine Rep.more (ρ := [.scr ns]) ⟨rfl, fun i s hs => ?_, fun i j s t b hij hi hj hs ht => ?_, ht, (fun b o e _ => by cases e), (fun b hb => by cases hb), (fun p hp => by cases hp), (fun b hb => by rw [hdc] at hb; cases hb)⟩ _
      · cases i with
        | zero =>
          cases hs
          exact ⟨_, rfl, a, rfl, by rw [hide_nil]; exact hS⟩
        | succ i => simp at hs
      · cases i with
        | zero => cases hi; cases hs
        | succ i => simp at hi
    · rw [List.length_cons, uns, List.length_replicate]
      omega
end
end PL
set_option Elab.async false
set_option linter.all false
set_option maxRecDepth 100000
set_option maxHeartbeats 2000000
namespace PL
open PySem PySem.Spec PyProof.Rows L2 LamX
/-- as the end for the law's own table, for every def's -/
theorem walk_all {l : PySem.W.OpenLaw} {n k : Nat} {q : Program} {loose : List Str} {XP : (Str → Option Value) → Heap → Prop} {YP : World → Heap → Prop} {d : DefRec} {K : Params → PySem.W.Frag} {CX : World → CXT} {x : Str}
    (hn : l.most = some n) (hn2 : n ≤ sizeLine) (hdf : d.params.defaults = []) (hr : Room k callerA) (hY : ∀ (w : World) (h : Heap), YP w h → (K w.params).In h)
    (F : ∀ (w : World) (mg : Str → Option Value) (fa : Addr) (h : Heap), YP w h → (K w.params).In h → h.Ns mainGlobals mg → mg d.name = some (.ref fa) →
      (∀ (y : Str) (f : Addr), ((recsOf q).any fun e => e.name == y) = true → mg y = some (.ref f) → OwnTab (K w.params) f h) → LawAtS l w (K w.params) (CX w) k n x mg fa h)
    (hCX : ∀ (w : World) (H : Hp) (s : Shared) (e : Value) (s' : Shared), CX w [] H s (fun _ _ _ => False) e s' → False) : PySem.W.WalkO q loose XP YP l.row.toRowW d [] (fun f vs => PySem.call f vs) := by
  refine Att.attach_callB hn hdf fun w s₀ s₁ mg mb fa o pm cd doc a vs ns G Y ho hd hcd hmg hobj hints hlen hbits hg => ?_
  have KX := hY w _ Y
  obtain ⟨fd, cs, sp, hT, nT, C, hb, hsp, hF⟩ := F w mg fa _ Y KX G.T.g hmg fun y f hy hmy c P o1 fd1 e dd vs1 sl k1 k2 k3 k4 k5 => by
    obtain ⟨dL, hm, he⟩ := List.any_eq_true.mp hy
    obtain ⟨a', o', fd', c', P', h1, h2, h3, h4, h5, ⟨⟨oc, vc, e1, _, e3, e4⟩, hP⟩⟩ := G.T.tab dL hm
    rw [beq_iff_eq.mp he, hmy] at h1; cases h1
    rw [KX _ _ k1] at h2; cases h2
    rw [k2] at h3; cases h3
    rw [k3] at h4; cases h4
    rw [KX _ _ k4] at e1; cases e1
    cases e3
    rw [k5] at e4; cases e4
    exact hP
  exact law_callTs KX G.T.g G.T.b G.T.builtins G.T.nolimit hg hT nT C G.T.bmain hobj hints (Nat.le_trans hlen hn2) hr hF hb (fun H hH hS => hsp H a ns hlen hbits hH hS) fun H e s' => hCX w H s₁ e s'
/-- what the top has written of a def -/
structure DefF (K : PySem.W.Frag) (x : Str) (st : Stmt) (f c : Addr) (fd : FuncData) : Prop where
  ns : PySem.W.nsIn K mainGlobals x = some (some (.ref f))
  F : FunC K x st f c fd
theorem def_mk {K : PySem.W.Frag} {x : Str} {st : Stmt} {f c : Addr} {oc : Value} {od an : Option Addr} {osl : Array (Option Value)} {kV doc pm ct : Value} (a : PySem.W.nsIn K mainGlobals x = some (some (.ref f))) (l : K.lookup f = some ⟨oc, od, .func (PySem.W.fnOf x x (defArgs st) (defBody st) (defScope st) .none kV doc pm an (.ref c) ct), osl⟩)
    (h : PySem.W.codeIn K (.ref c) x = true) (k : PySem.W.keepIn K (.ref f) = true) : DefF K x st f c (PySem.W.fnOf x x (defArgs st) (defBody st) (defScope st) .none kV doc pm an (.ref c) ct) := ⟨a, ⟨⟨oc, od, kV, doc, pm, an, ct, osl, rfl, l, h⟩, k⟩⟩
/-- .. and of its table -/
structure TabF (K : PySem.W.Frag) (c P : Addr) : Prop where
  ex : ∃ (e : Value) (dd : Option Addr) (vs : Array Value) (sl : Array (Option Value)), K.lookup c = some ⟨e, dd, .fields vs, sl⟩ ∧ vs[11]? = some (.ref P)
  hd : PySem.W.codeHdIn K c P = true
  out : K.lookup P = none
theorem TabF.empty {K : PySem.W.Frag} {x : Str} {st : Stmt} {f c P : Addr} {fd : FuncData} {h : Heap} (t : TabF K c P) (F : FunC K x st f c fd) (o : OwnTab K f h) : h.get? P = some { cls := .none, data := .fields #[] } := by
  obtain ⟨e, dd, vs, sl, h1, h2⟩ := t.ex
  obtain ⟨oc, od, kV, doc, pm, an, ct, osl, rfl, lk, hcd⟩ := F.ex
  exact o c P _ _ e dd vs sl lk rfl rfl h1 h2
theorem tab_mk {K : PySem.W.Frag} {c P : Addr} {e : Value} {dd : Option Addr} {vs : Array Value} {sl : Array (Option Value)} (a : K.lookup c = some ⟨e, dd, .fields vs, sl⟩) (b : vs[11]? = some (.ref P)) (h : PySem.W.codeHdIn K c P = true) (o : K.lookup P = none) : TabF K c P := ⟨⟨e, dd, vs, sl, a, b⟩, h, o⟩
/-- what the top has written of an error's class -/
structure ExcF (K : PySem.W.Frag) (x : Str) (C : Addr) : Prop where
  ns : PySem.W.nsIn K mainGlobals x = some (some (.ref C))
  kp : PySem.W.keepIn K (.ref C) = true
  sub : PySem.W.subIn K (.ref C) (.type "BaseException") = some true
  ty : PySem.W.typeIn K (.ref C) = some (.type "type")
end PL
set_option Elab.async false
set_option linter.all false
set_option maxRecDepth 100000
set_option maxHeartbeats 2000000
namespace PL
open PySem PySem.Spec PyProof.Rows L2
def blkB (N : List Str) (sc scope : Scope) (own : List (Str × Nat)) : Bool :=
  decide (scope.kind = .function) && scope.names.all (fun y => scope.names.lookup y.1 == some y.2) && own.all (fun p => N[p.2]? == some p.1) &&
  scope.names.all (fun y => !(y.2 == .free) || sc.names.lookup y.1 == some .cell || sc.names.lookup y.1 == some .free) && scope.names.all (fun y => !(y.2 == .local || y.2 == .cell) || (own.map (·.1)).contains y.1 || !N.contains y.1)
theorem blk_by {N : List Str} {sc scope : Scope} {own : List (Str × Nat)} (h : blkB N sc scope own = true) : BlkOk N sc scope own := by
  unfold blkB at h
  simp only [Bool.and_eq_true, List.all_eq_true, decide_eq_true_eq, Bool.or_eq_true, Bool.not_eq_true', beq_iff_eq, beq_eq_false_iff_ne, ne_eq] at h
  obtain ⟨⟨⟨⟨h1, h2⟩, h3⟩, h4⟩, h5⟩ := h
  refine ⟨h1, h2, h3, fun y hy e => ?_, fun y hy e => ?_⟩
  · rcases h4 y hy with (z | z) | z
    · exact absurd e z
    · exact .inl z
    · exact .inr z
  · rcases h5 y hy with (z | z) | z
    · rcases e with e | e <;> rw [e] at z <;> cases z
    · exact .inl (by simpa using z)
    · exact .inr (by simpa using z)
theorem nocell_by {scope : Scope} (h : scope.names.all (fun y => !(y.2 == .cell)) = true) : ∀ y ∈ scope.names, y.2 ≠ .cell := by
  simp only [List.all_eq_true, Bool.not_eq_true', beq_eq_false_iff_ne, ne_eq] at h
  exact h
def fIsN : PyData → PyData → (PyData → Prop) → Prop := fun x y Q => y = .none ∧ Q (.bool (isN x))
def fNotN : PyData → PyData → (PyData → Prop) → Prop := fun x y Q => y = .none ∧ Q (.bool (!isN x))
theorem mono_isN : MonoF fIsN := fun x y Q Q' hq h => ⟨h.1, hq _ h.2⟩
theorem mono_notN : MonoF fNotN := fun x y Q Q' hq h => ⟨h.1, hq _ h.2⟩
theorem hTB (K : PySem.W.Frag) (H : Hp) (v : V) (y : Bool) (h : Da K H v (.bool y)) : v = .bl y := h.bl_
def lawIter : Stmt → Expr := fun st => match defBody st with
  | .For _ it _ _ _ :: _ => it
  | _ => .Constant .none 0 ⟨0, 0, 0, 0⟩
def lawBody : Stmt → List Stmt := fun st => match defBody st with
  | .For _ _ b _ _ :: _ => b
  | _ => []
end PL
namespace PL
open PySem in
theorem gxTab {base : Heap} {mg : Str → Option Value} {c P : Addr} (b : LamX.TabB base mg c P) : GxR.TabB base mg c P := ⟨b.code, b.bm, b.gP⟩
end PL
namespace PL
end PL
set_option Elab.async false
set_option linter.all false
set_option maxRecDepth 100000
set_option maxHeartbeats 2000000
namespace PL
open PySem PySem.Spec PyProof.Rows L2
open LamX (ExtN Tabs TabS)
section
variable {T : Tb} {X : Cx} {W : WX} {pos p pos' apos cpos : Pos} {e a b c : Expr} {es : List Expr} {st : Stmt} {K : PySem.W.Frag} {G G2 : Gh} {ρ ρ2 : En} {σ σ2 : L2.St} {H H' : Hp} {D : Ends}
theorem Rep.wrO (r : Rep T K G ρ σ H) {i : Nat} {s0 s' : Sl} {a : Addr} {o o' : HO} (hi : ρ[i]? = some s0) (h0 : s0.owned = true) (hv : σ[i]? = some (some (.ref a))) (ha : Own T.dc G.O a) (h1 : H a = some o) (hc : Cont o) (ho : NT o') (hs' : s'.owned = true)
    (hx : ∀ H2, hide G.O H2 = hide G.O H → H2 a = some o' → SlOk K T.dc G.O H2 s' (some (.ref a))) (hfl : ∀ q ∈ G.fl, q.1 ≠ a) : Rep T K G (ρ.set i s') σ (upd H a o') := by
  have eh : hide G.O (upd H a o') = hide G.O H := hide_upd ha.1
  have hil : i < ρ.length := (List.getElem?_eq_some_iff.mp hi).1
  refine ⟨by rw [List.length_set]; exact r.len, fun j s hs => ?_, fun j k s t b hjk hj hk hs ht e1 e2 => ?_, r.tab.upd h1 hc, by rw [eh]; exact r.ext, fun b hb => ?_, fun q hq => ?_, fun b hb => ⟨(r.dcs b hb).1, by rw [upd_ne fun z => ha.2 (by rw [← z]; exact hb)]; exact (r.dcs b hb).2.1, (r.dcs b hb).2.2⟩⟩
  · by_cases e : i = j
    · subst e
      rw [List.getElem?_set_self hil] at hs
      cases hs
      exact ⟨_, hv, hx _ eh upd_same⟩
    · rw [List.getElem?_set_ne e] at hs
      obtain ⟨u, h2, h3⟩ := r.slot j s hs
      have ne : ∀ b, s.owned = true → u = some (.ref b) → b ≠ a := fun b hw eu z => by
        rw [eu, z] at h2
        exact r.sep i j _ s a e hi hs h0 hw hv h2
      refine ⟨u, h2, ?_⟩
      cases s with
      | un => trivial
      | sh d => obtain ⟨x, h4, h5⟩ := h3; exact ⟨x, h4, by rw [eh]; exact h5⟩
      | ol _ => obtain ⟨b, us, h4, h5, h6, h7⟩ := h3; exact ⟨b, us, h4, h5, by rw [upd_ne (ne b rfl h4)]; exact h6, by rw [eh]; exact h7⟩
      | ok _ => obtain ⟨b, us, h4, h5, h6, h7, h8⟩ := h3; exact ⟨b, us, h4, h5, by rw [upd_ne (ne b rfl h4)]; exact h6, h7, by rw [eh]; exact h8⟩
      | ot _ => obtain ⟨b, us, h4, h5, h6, h7, h8⟩ := h3; exact ⟨b, us, h4, h5, by rw [upd_ne (ne b rfl h4)]; exact h6, h7, by rw [eh]; exact h8⟩
      | ln b _ => obtain ⟨h4, h5, hob, h6, h8⟩ := h3; exact ⟨h4, h5, hob, by rw [upd_ne (ne b rfl h4)]; exact h6, by rw [eh]; exact h8⟩
      | on _ => obtain ⟨b, us, h4, h5, h6, h7, h8⟩ := h3; exact ⟨b, us, h4, h5, by rw [upd_ne (ne b rfl h4)]; exact h6, h7, by rw [eh]; exact h8⟩
      | sn d => obtain ⟨x, h4, h5⟩ := h3; exact ⟨x, h4, by rw [eh]; exact h5⟩
      | sk d => obtain ⟨x, h4, h5⟩ := h3; exact ⟨x, h4, by rw [eh]; exact h5⟩
      | rr d => obtain ⟨x, h4, h5⟩ := h3; exact ⟨x, h4, by rw [eh]; exact h5⟩
      | rg A R => obtain ⟨h4, h5, h6, h7⟩ := h3; exact ⟨h4, h5, h6, by rw [eh]; exact h7.ext (ExtN.refl _) fun c hx => upd_ne (h7.ne h1 (by rcases hc with ⟨x, rfl⟩ | ⟨x, rfl⟩ | ⟨x, rfl⟩ <;> trivial) c hx)⟩
      | dice => exact h3
      | scr ns => obtain ⟨b, h4, h5⟩ := h3; exact ⟨b, h4, by rw [eh]; exact h5⟩
  · have own : ∀ {l : Nat} {u : Sl}, (ρ.set i s')[l]? = some u → u.owned = true → ∃ u', ρ[l]? = some u' ∧ u'.owned = true := fun {l u} hl hu => by
      by_cases e : i = l
      · subst e; exact ⟨_, hi, h0⟩
      · rw [List.getElem?_set_ne e] at hl; exact ⟨u, hl, hu⟩
    obtain ⟨s1, hj', hs'⟩ := own hj hs
    obtain ⟨t', hk', ht'⟩ := own hk ht
    exact r.sep j k s1 t' b hjk hj' hk' hs' ht' e1 e2
  · by_cases z : b = a
    · rw [z, upd_same]; exact ⟨_, rfl, ho⟩
    · rw [upd_ne z]; exact r.dom b hb
  · obtain ⟨h2, h3⟩ := r.fly q hq
    exact ⟨h2, by rw [upd_ne (hfl q hq)]; exact h3⟩
def keyOf : PyData → Option Key
  | .int i => some (.inl i)
  | .str x => some (.inr x)
  | _ => none
def keysOf : List PyData → Option (List Key)
  | [] => some []
  | d :: r => match keyOf d, keysOf r with
    | some k, some ks => some (k :: ks)
    | _, _ => none
def keyT : PyData → Option (List Key)
  | .tuple ds => keysOf ds
  | _ => none
/-- a key that is no empty tuple -/
def keyTn : PyData → Option (List Key)
  | .tuple (d :: ds) => keysOf (d :: ds)
  | _ => none
theorem keyOf_da {v : V} {d : PyData} {k : Key} (h : Da K H v d) (e : keyOf d = some k) : v = kV k := by
  cases h <;> simp [keyOf] at e <;> subst e <;> rfl
theorem keysOf_da : ∀ {vs : List V} {ds : List PyData} {ks : List Key}, DaAll K H vs ds → keysOf ds = some ks → vs = ks.map kV
  | _, _, ks, .nil, e => by cases e; rfl
  | _, _, ks, .cons (v := v) (vs := vs) (d := d) (ds := ds) h r, e => by
    simp only [keysOf] at e
    cases h1 : keyOf d with
    | none => rw [h1] at e; cases e
    | some k =>
      cases h2 : keysOf ds with
      | none => rw [h1, h2] at e; cases e
      | some ks' =>
        rw [h1, h2] at e
        cases e
        rw [keyOf_da h h1, keysOf_da r h2]
        rfl
theorem keyOf_is {d : PyData} {k : Key} (e : keyOf d = some k) : d = keyD k := by
  cases d <;> simp [keyOf] at e <;> subst e <;> rfl
theorem keysOf_all : ∀ {ds : List PyData} {ks : List Key}, keysOf ds = some ks → ∀ d ∈ ds, ∃ k, d = keyD k
  | d :: ds, ks, e, x, hx => by
    simp only [keysOf] at e
    cases h1 : keyOf d with
    | none => rw [h1] at e; cases e
    | some k =>
      cases h2 : keysOf ds with
      | none => rw [h1, h2] at e; cases e
      | some ks' =>
        rcases List.mem_cons.mp hx with rfl | hx
        · exact ⟨k, keyOf_is h1⟩
        · exact keysOf_all h2 x hx
theorem keyT_da {v : V} {d : PyData} {k : List Key} (h : Da K H v d) (e : keyTn d = some k) : ∃ b, v = .ref b ∧ H b = some (.tup (k.map kV)) := by
  cases h with
  | tup h1 h2 =>
    rename_i ds
    cases ds with
    | nil => cases e
    | cons d ds => exact ⟨_, rfl, by rw [h1, keysOf_da h2 e]⟩
  | ftup h1 h2 h3 h4 =>
    rename_i ds
    cases ds with
    | nil => cases e
    | cons d ds =>
      rcases h3 with h3 | ⟨x, hx, hn⟩
      · cases h3
      · obtain ⟨k', ek⟩ := keysOf_all e x hx
        exact absurd ek (hn k')
  | _ => cases e
def lookK {κ : Type} [DecidableEq κ] (kvs : List (κ × PyData)) (k : κ) : Option PyData := (kvs.find? fun p => decide (p.1 = k)).map (·.2)
def putD {κ : Type} [DecidableEq κ] (kvs : List (κ × PyData)) (k : κ) (d : PyData) : List (κ × PyData) :=
  if (kvs.any fun p => decide (p.1 = k)) = true then kvs.map (fun p => if p.1 = k then (p.1, d) else p) else kvs ++ [(k, d)]
theorem look_da {κ : Type} [DecidableEq κ] {k : κ} : ∀ {vs : List (κ × V)} {kvs : List (κ × PyData)}, vs.map (·.1) = kvs.map (·.1) → DaAll K H (vs.map (·.2)) (kvs.map (·.2)) →
    (∃ v d, valV vs k = some v ∧ lookK kvs k = some d ∧ Da K H v d) ∨ (valV vs k = none ∧ lookK kvs k = none)
  | [], [], _, _ => .inr ⟨rfl, rfl⟩
  | [], _ :: _, e, _ => by cases e
  | _ :: _, [], e, _ => by cases e
  | p :: r, q :: t, e, h => by
    injection e with e1 e2
    cases h with
    | cons h1 h2 =>
      by_cases z : q.1 = k
      · exact .inl ⟨p.2, q.2, valV_pos (e1.trans z), by simp [lookK, List.find?_cons, z], h1⟩
      · rw [valV_neg (fun y => z (e1.symm.trans y)), show lookK (q :: t) k = lookK t k by simp [lookK, List.find?_cons, z]]
        exact look_da e2 h2
theorem put_da {κ : Type} [DecidableEq κ] {k : κ} {v : V} {d : PyData} (hd : Da K H v d) {vs : List (κ × V)} {kvs : List (κ × PyData)} (e : vs.map (·.1) = kvs.map (·.1)) (h : DaAll K H (vs.map (·.2)) (kvs.map (·.2))) :
    (putK vs k v).map (·.1) = (putD kvs k d).map (·.1) ∧ DaAll K H ((putK vs k v).map (·.2)) ((putD kvs k d).map (·.2)) := by
  have hany : (vs.any fun p => decide (p.1 = k)) = (kvs.any fun p => decide (p.1 = k)) := by
    have : (vs.map (·.1)).any (fun x => decide (x = k)) = (kvs.map (·.1)).any (fun x => decide (x = k)) := by rw [e]
    rwa [List.any_map, List.any_map] at this
  unfold putK putD
  rw [hany]
  by_cases c : (kvs.any fun p => decide (p.1 = k)) = true
  · rw [if_pos c, if_pos c]
    have key : ∀ (vs : List (κ × V)) (kvs : List (κ × PyData)), vs.map (·.1) = kvs.map (·.1) → DaAll K H (vs.map (·.2)) (kvs.map (·.2)) → (vs.map fun kv => if kv.1 = k then (kv.1, v) else kv).map (·.1) = (kvs.map fun p => if p.1 = k then (p.1, d) else p).map (·.1) ∧ DaAll K H ((vs.map fun kv => if kv.1 = k then (kv.1, v) else kv).map (·.2)) ((kvs.map fun p => if p.1 = k then (p.1, d) else p).map (·.2)) := by
      intro vs
      induction vs with
      | nil => intro kvs e h; cases kvs with
        | nil => exact ⟨rfl, .nil⟩
        | cons _ _ => cases e
      | cons q r ih => intro kvs e h; cases kvs with
        | nil => cases e
        | cons q' t =>
          injection e with e1 e2
          cases h with
          | cons h1 h2 =>
            obtain ⟨i1, i2⟩ := ih t e2 h2
            have e1 : q.1 = q'.1 := e1
            simp only [List.map_cons]
            by_cases z : q'.1 = k
            · rw [if_pos z, if_pos (e1.trans z)]
              exact ⟨by rw [i1, e1], .cons hd i2⟩
            · rw [if_neg z, if_neg (fun y => z (e1.symm.trans y))]
              exact ⟨by rw [i1, e1], .cons h1 i2⟩
    exact key vs kvs e h
  · rw [if_neg c, if_neg c]
    simp only [List.map_append, List.map_cons, List.map_nil]
    exact ⟨by rw [e], h.append (.cons hd .nil)⟩
def sPut (i : Nat) (wk w : PW) : SW := fun ρ D => match ρ[i]? with
  | some (.ok kvs) => w ρ (fun d => wk ρ (fun k => ∃ key, keyOf k = some key ∧ kvs.length < sizeLine ∧ D.nx (ρ.set i (.ok (putD kvs key d)))) D.ex) D.ex
  | some (.ot kvs) => w ρ (fun d => wk ρ (fun k => ∃ key, keyTn k = some key ∧ kvs.length < sizeLine ∧ D.nx (ρ.set i (.ot (putD kvs key d)))) D.ex) D.ex
  | some (.ln a (.t kvs)) => w ρ (fun d => wk ρ (fun k => ∃ key, keyTn k = some key ∧ kvs.length < sizeLine ∧ D.nx (ρ.set i (.ln a (.t (putD kvs key d))))) D.ex) D.ex
  | _ => False
theorem length_of_map {α β γ : Type} {f : α → γ} {g : β → γ} {xs : List α} {ys : List β} (h : xs.map f = ys.map g) : xs.length = ys.length := by
  have := congrArg List.length h
  rwa [List.length_map, List.length_map] at this
theorem ds_put {i : Nat} {w wk : PW} {k : Nat} (hr : Room k X.A) (ho : PE X a (tVar i)) (hk : DE T X W b wk) (h : DE T X W e w) (hs : swapsWith e (some (.Subscript a b pos')) pos.line X.env = pure false := by rfl) : DS T X W (.Assign [.Subscript a b pos'] e pos) (sPut i wk w) :=
  ⟨ps_mono (ps_dput (hu_of hr) ho hk.pe h.pe hs) fun D σ H q => by
    obtain ⟨G, ρ, r, fa, q⟩ := q
    unfold sPut at q
    split at q
    · rename_i kvs hd
      refine ⟨G, ρ, r, h.mono _ _ _ _ _ (fun d hd' v H1 r1 a1 => ?_) (fun _ z => ex_out' z) q⟩
      obtain ⟨u, h1, b, vs, rfl, h3, h4, h5, h6⟩ := r1.slot i _ hd
      refine ⟨_, h1, lift_intro hk.mono r1 (hk.mono _ _ _ _ _ (fun k hk' y H2 r2 e2 a2 => ?_) (fun _ z => ex_out' z) hd')⟩
      obtain ⟨key, ek, hl, q⟩ := hk'
      obtain ⟨v', h1', b', vs', e', h3', h4', h5', h6'⟩ := r2.slot i _ hd
      rw [h1] at h1'
      cases h1'
      cases e'
      rw [keyOf_da a2 ek]
      obtain ⟨p1, p2⟩ := put_da (k := key) (a1.ext e2) h5' h6'
      refine ⟨_, _, rfl, DPut.k h4' (by rw [length_of_map h5']; exact hl), ?_⟩
      exact q σ _ G.O (r2.wrO hd rfl h1 h3' h4' (.inr (.inl ⟨_, rfl⟩)) (nt_of rfl) rfl (fun H3 eh hb => ⟨_, _, rfl, h3', hb, p1, by rw [eh]; exact p2⟩) fun q hq z => (fa q hq i _ hd rfl).1 (by rw [z]; exact h1)) (fa.wr hd rfl)
    · rename_i kvs hd
      refine ⟨G, ρ, r, h.mono _ _ _ _ _ (fun d hd' v H1 r1 a1 => ?_) (fun _ z => ex_out' z) q⟩
      obtain ⟨u, h1, b, vs, rfl, h3, h4, h5, h6⟩ := r1.slot i _ hd
      refine ⟨_, h1, lift_intro hk.mono r1 (hk.mono _ _ _ _ _ (fun k hk' y H2 r2 e2 a2 => ?_) (fun _ z => ex_out' z) hd')⟩
      obtain ⟨key, ek, hl, q⟩ := hk'
      obtain ⟨v', h1', b', vs', e', h3', h4', h5', h6'⟩ := r2.slot i _ hd
      rw [h1] at h1'
      cases h1'
      cases e'
      obtain ⟨kb, rfl, hkb⟩ := keyT_da a2 ek
      obtain ⟨p1, p2⟩ := put_da (k := key) (a1.ext e2) h5' h6'
      refine ⟨_, _, rfl, DPut.t h4' (hide_some hkb).2 (by rw [length_of_map h5']; exact hl), ?_⟩
      exact q σ _ G.O (r2.wrO hd rfl h1 h3' h4' (.inr (.inr ⟨_, rfl⟩)) (nt_of rfl) rfl (fun H3 eh hb => ⟨_, _, rfl, h3', hb, p1, by rw [eh]; exact p2⟩) fun q hq z => (fa q hq i _ hd rfl).1 (by rw [z]; exact h1)) (fa.wr hd rfl)
    · rename_i ad kvs hd
      refine ⟨G, ρ, r, h.mono _ _ _ _ _ (fun d hd' v H1 r1 a1 => ?_) (fun _ z => ex_out' z) q⟩
      obtain ⟨u, h1, rfl, h3, o, h4, vs, rfl, h5, h6⟩ := r1.slot i _ hd
      refine ⟨_, h1, lift_intro hk.mono r1 (hk.mono _ _ _ _ _ (fun k hk' y H2 r2 e2 a2 => ?_) (fun _ z => ex_out' z) hd')⟩
      obtain ⟨key, ek, hl, q⟩ := hk'
      obtain ⟨v', h1', e', h3', o', h4', vs', rfl, h5', h6'⟩ := r2.slot i _ hd
      obtain ⟨kb, rfl, hkb⟩ := keyT_da a2 ek
      obtain ⟨p1, p2⟩ := put_da (k := key) (a1.ext e2) h5' h6'
      refine ⟨_, _, rfl, DPut.t h4' (hide_some hkb).2 (by rw [length_of_map h5']; exact hl), ?_⟩
      exact q σ _ G.O (r2.wrO hd rfl h1 h3' h4' (.inr (.inr ⟨_, rfl⟩)) (nt_of rfl) rfl (fun H3 eh hb => ⟨rfl, h3', _, hb, _, rfl, p1, by rw [eh]; exact p2⟩) fun q hq z => (fa q hq i _ hd rfl).1 (by rw [z]; exact h1)) (fa.wr hd rfl)
    · exact q.elim, fun ρ D D' l q => by
    unfold sPut at q ⊢
    split at q
    · exact h.mono _ _ _ _ _ (fun d hd => hk.mono _ _ _ _ _ (fun k ⟨key, h1, h2, h3⟩ => ⟨key, h1, h2, l.nx _ h3⟩) l.ex hd) l.ex q
    · exact h.mono _ _ _ _ _ (fun d hd => hk.mono _ _ _ _ _ (fun k ⟨key, h1, h2, h3⟩ => ⟨key, h1, h2, l.nx _ h3⟩) l.ex hd) l.ex q
    · exact h.mono _ _ _ _ _ (fun d hd => hk.mono _ _ _ _ _ (fun k ⟨key, h1, h2, h3⟩ => ⟨key, h1, h2, l.nx _ h3⟩) l.ex hd) l.ex q
    · exact q⟩
end
end PL
set_option Elab.async false
set_option linter.all false
set_option maxRecDepth 100000
set_option maxHeartbeats 2000000
namespace PL
open PySem PySem.Spec PyProof.Rows L2
open LamX (ExtN Tabs TabS)
section
variable {T : Tb} {X : Cx} {W : WX} {pos p pos' apos cpos : Pos} {e a b c f : Expr} {es : List Expr} {st : Stmt} {K : PySem.W.Frag} {G G2 : Gh} {ρ ρ2 : En} {σ σ2 : L2.St} {H H' : Hp} {D : Ends}
def parseK : List (PyData × PyData) → Option (List (Key × PyData))
  | [] => some []
  | p :: r => match keyOf p.1, parseK r with
    | some k, some ks => some ((k, p.2) :: ks)
    | _, _ => none
def parseT : List (PyData × PyData) → Option (List (List Key × PyData))
  | [] => some []
  | p :: r => match keyT p.1, parseT r with
    | some k, some ks => some ((k, p.2) :: ks)
    | _, _ => none
theorem keyOf_keyD (k : Key) : keyOf (keyD k) = some k := by cases k <;> rfl
theorem keysOf_map : ∀ k : List Key, keysOf (k.map keyD) = some k
  | [] => rfl
  | x :: r => by rw [List.map_cons, keysOf, keyOf_keyD, keysOf_map r]
theorem keyT_keyD (k : List Key) : keyT (.tuple (k.map keyD)) = some k := keysOf_map k
theorem keyT_K (k : Key) : keyT (keyD k) = none := by cases k <;> rfl
theorem keyOf_T (ds : List PyData) : keyOf (.tuple ds) = none := rfl
theorem parseK_map : ∀ kvs : List (Key × PyData), parseK (kvs.map fun p => (keyD p.1, p.2)) = some kvs
  | [] => rfl
  | p :: r => by rw [List.map_cons, parseK, keyOf_keyD, parseK_map r]
theorem parseT_map : ∀ kvs : List (List Key × PyData), parseT (kvs.map fun p => (.tuple (p.1.map keyD), p.2)) = some kvs
  | [] => rfl
  | p :: r => by rw [List.map_cons, parseT, keyT_keyD, parseT_map r]
def mtK (d : PyData) (x : Option (Option PyData)) : Option (Option PyData) := match d with
  | .none => some none
  | _ => x
theorem mtK_key (k : Key) (x : Option (Option PyData)) : mtK (keyD k) x = x := by cases k <;> rfl
def atDc (ps : List (PyData × PyData)) (k : PyData) : Option (Option PyData) := match keyOf k with
  | some key => (parseK ps).map fun kvs => lookK kvs key
  | none => match keyTn k, ps with
    | some key, q :: r => mtK q.1 ((parseT (q :: r)).map fun kvs => lookK kvs key)
    | _, _ => none
def atSl (s : Sl) (k : PyData) : Option (Option PyData) := match s with
  | .ok kvs => (keyOf k).map fun key => lookK kvs key
  | .sk kvs => (keyOf k).map fun key => lookK kvs key
  | .ot kvs => (keyTn k).map fun key => lookK kvs key
  | .ln _ (.t kvs) => (keyTn k).map fun key => lookK kvs key
  | .sh (.dict ps) => atDc ps k
  | _ => none
theorem zip_split {α : Type} {f : α → PyData} : ∀ {vs : List (α × V)} {ds : List PyData}, DaAll K H (vs.map (·.2)) ds → ∃ kvs : List (α × PyData), vs.map (·.1) = kvs.map (·.1) ∧ DaAll K H (vs.map (·.2)) (kvs.map (·.2)) ∧ (vs.map fun p => f p.1).zip ds = kvs.map fun p => (f p.1, p.2)
  | [], _, .nil => ⟨[], rfl, .nil, rfl⟩
  | p :: r, _, .cons (d := d) h t => by
    obtain ⟨kvs, h1, h2, h3⟩ := zip_split (f := f) (vs := r) t
    exact ⟨(p.1, d) :: kvs, by simp [h1], .cons h h2, by simp [h3]⟩
/-- d[k], as the machine has it -/
def Found (K : PySem.W.Frag) (O : List Addr) (H : Hp) (o : Option PyData) (o' : Option V) : Prop := match o, o' with
  | none, none => True
  | some d, some v => Da K (hide O H) v d
  | _, _ => False
theorem found_look {κ : Type} [DecidableEq κ] {O : List Addr} {k : κ} {vs : List (κ × V)} {kvs : List (κ × PyData)} (e : vs.map (·.1) = kvs.map (·.1)) (h : DaAll K (hide O H) (vs.map (·.2)) (kvs.map (·.2))) : Found K O H (lookK kvs k) (valV vs k) := by
  rcases look_da (k := k) e h with ⟨v, d, h1, h2, h3⟩ | ⟨h1, h2⟩
  · rw [h1, h2]; exact h3
  · rw [h1, h2]; trivial
theorem dc_get {O : List Addr} {v y : V} {ps : List (PyData × PyData)} {k : PyData} {o : Option PyData} (h : Da K (hide O H) v (.dict ps)) (hy : Da K (hide O H) y k) (ho : atDc ps k = some o) : ∃ a o', v = .ref a ∧ IsD H a ∧ DGet H a y o' ∧ Found K O H o o' := by
  unfold atDc at ho
  cases h with
  | dk h1 h2 =>
    obtain ⟨kvs, e1, e2, e3⟩ := zip_split (f := keyD) h2
    rw [e3, parseK_map] at ho
    cases ek : keyOf k with
    | some key =>
      rw [ek] at ho
      cases ho
      rw [keyOf_da hy ek]
      exact ⟨_, _, rfl, .inl ⟨_, .inl (hide_some h1).2⟩, DGet.k (hide_some h1).2, found_look e1 e2⟩
    | none =>
      rw [ek] at ho
      exfalso
      cases et : keyTn k with
      | none => rw [et] at ho; cases ho
      | some key =>
        rw [et] at ho
        cases kvs with
        | nil => cases ho
        | cons q r =>
          simp only [List.map_cons, parseT, keyT_K, mtK_key] at ho
          cases ho
  | dte h1 =>
    cases ek : keyOf k with
    | some key =>
      rw [ek] at ho
      simp [parseK, keyOf] at ho
    | none =>
      rw [ek] at ho
      cases et : keyTn k with
      | none => rw [et] at ho; cases ho
      | some key =>
        rw [et] at ho
        cases ho
        obtain ⟨kb, rfl, hkb⟩ := keyT_da hy et
        exact ⟨_, _, rfl, .inr ⟨_, .inl (hide_some h1).2⟩, DGet.t (hide_some h1).2 (hide_some hkb).2, found_look (k := key) (vs := []) (kvs := []) rfl .nil⟩
  | ob h1 =>
    cases ek : keyOf k with
    | some key =>
      rw [ek] at ho
      simp [parseK, keyOf] at ho
    | none =>
      rw [ek] at ho
      cases et : keyTn k with
      | none => rw [et] at ho; cases ho
      | some key =>
        rw [et] at ho
        simp [parseT, keyT, mtK] at ho
  | pt h1 h1a h1b h1c =>
    cases ek : keyOf k with
    | some key =>
      rw [ek] at ho
      simp [parseK, keyOf] at ho
    | none =>
      rw [ek] at ho
      cases et : keyTn k with
      | none => rw [et] at ho; cases ho
      | some key =>
        rw [et] at ho
        simp [parseT, keyT, mtK] at ho
  | dt h1 hne h2 =>
    obtain ⟨kvs, e1, e2, e3⟩ := zip_split (f := fun k => .tuple (k.map keyD)) h2
    rw [e3] at ho
    have ep := parseT_map kvs
    cases kvs with
    | nil =>
      exfalso
      have := length_of_map e1
      exact hne (List.length_eq_zero_iff.mp this)
    | cons q r =>
      rw [List.map_cons] at ep
      simp only [List.map_cons, ep] at ho
      cases ek : keyOf k with
      | some key =>
        rw [ek] at ho
        simp only [parseK, keyOf_T] at ho
        cases ho
      | none =>
        rw [ek] at ho
        cases et : keyTn k with
        | none => rw [et] at ho; cases ho
        | some key =>
          rw [et] at ho
          have ho : (parseT ((.tuple (q.1.map keyD), q.2) :: r.map fun p => (.tuple (p.1.map keyD), p.2))).map (fun kvs => lookK kvs key) = some o := ho
          rw [ep] at ho
          cases ho
          obtain ⟨kb, rfl, hkb⟩ := keyT_da hy et
          exact ⟨_, _, rfl, .inr ⟨_, .inl (hide_some h1).2⟩, DGet.t (hide_some h1).2 (hide_some hkb).2, found_look e1 e2⟩
/-- as dc_get, in a slot -/
theorem sl_get {D0 O : List Addr} {s : Sl} {u : Option V} {y : V} {k : PyData} {o : Option PyData} (h : SlOk K D0 O H s u) (hy : Da K (hide O H) y k) (ho : atSl s k = some o) : ∃ a o', u = some (.ref a) ∧ IsD H a ∧ DGet H a y o' ∧ Found K O H o o' := by
  unfold atSl at ho
  cases s with
  | ok kvs =>
    obtain ⟨a, vs, rfl, h2, h3, h4, h5⟩ := h
    cases ek : keyOf k with
    | none => rw [ek] at ho; cases ho
    | some key =>
      rw [ek] at ho
      cases ho
      rw [keyOf_da hy ek]
      exact ⟨_, _, rfl, .inl ⟨_, .inl h3⟩, DGet.k h3, found_look h4 h5⟩
  | sk kvs =>
    obtain ⟨x, rfl, a, ob, vs, rfl, h3, h4, h5⟩ := h
    have h3 := (hide_some h3).2
    cases ek : keyOf k with
    | none => rw [ek] at ho; cases ho
    | some key =>
      rw [ek] at ho
      cases ho
      rw [keyOf_da hy ek]
      exact ⟨_, _, rfl, .inl ⟨_, .inr ⟨ob, h3⟩⟩, .inl ⟨vs, key, .inr ⟨ob, h3⟩, rfl, rfl⟩, found_look h4 h5⟩
  | ot kvs =>
    obtain ⟨a, vs, rfl, h2, h3, h4, h5⟩ := h
    cases ek : keyTn k with
    | none => rw [ek] at ho; cases ho
    | some key =>
      rw [ek] at ho
      cases ho
      obtain ⟨kb, rfl, hkb⟩ := keyT_da hy ek
      exact ⟨_, _, rfl, .inr ⟨_, .inl h3⟩, DGet.t h3 (hide_some hkb).2, found_look h4 h5⟩
  | ln a l =>
    obtain ⟨rfl, h2, o', h3, hl⟩ := h
    cases l with
    | l ds => cases ho
    | t kvs =>
      obtain ⟨vs, rfl, h4, h5⟩ := hl
      cases ek : keyTn k with
      | none => simp only [ek] at ho; cases ho
      | some key =>
        simp only [ek] at ho
        cases ho
        obtain ⟨kb, rfl, hkb⟩ := keyT_da hy ek
        exact ⟨_, _, rfl, .inr ⟨_, .inl h3⟩, DGet.t h3 (hide_some hkb).2, found_look h4 h5⟩
  | sh d =>
    obtain ⟨x, rfl, h2⟩ := h
    cases d with
    | dict ps =>
      obtain ⟨a, o', rfl, h3, h4, h5⟩ := dc_get h2 hy ho
      exact ⟨a, o', rfl, h3, h4, h5⟩
    | _ => cases ho
  | _ => cases ho
def dIx (o : Option (Option PyData)) (Q : PyData → Prop) : Prop := match o with
  | some (some d) => Q d
  | _ => False
def dGet (o : Option (Option PyData)) (x : PyData) (Q : PyData → Prop) : Prop := match o with
  | some o => Q (o.getD x)
  | none => False
def Sl.isD : Sl → Bool
  | .ok _ => true
  | .ot _ => true
  | .ln _ (.t _) => true
  | .sh (.dict _) => true
  | .sk _ => true
  | _ => false
def wDs (i : Nat) (F : Sl → PW) : PW := fun ρ Q E => match ρ[i]? with
  | some (.ok kvs) => F (.ok kvs) ρ Q E
  | some (.ot kvs) => F (.ot kvs) ρ Q E
  | some (.sh (.dict ps)) => F (.sh (.dict ps)) ρ Q E
  | some (.ln a (.t kvs)) => F (.ln a (.t kvs)) ρ Q E
  | some (.sk kvs) => F (.sk kvs) ρ Q E
  | _ => False
theorem wDs_elim {i : Nat} {F : Sl → PW} {Q : PyData → Prop} {E : Exn → Prop} (h : wDs i F ρ Q E) : ∃ s, ρ[i]? = some s ∧ s.isD = true ∧ F s ρ Q E := by
  unfold wDs at h
  split at h
  · exact ⟨_, by assumption, rfl, h⟩
  · exact ⟨_, by assumption, rfl, h⟩
  · exact ⟨_, by assumption, rfl, h⟩
  · exact ⟨_, by assumption, rfl, h⟩
  · exact ⟨_, by assumption, rfl, h⟩
  · exact h.elim
theorem mono_Ds {i : Nat} {F : Sl → PW} (m : ∀ s, Mono (F s)) : Mono (wDs i F) := fun ρ Q Q' E E' hq he h => by
  unfold wDs at h ⊢
  split at h
  · exact m _ _ _ _ _ _ hq he h
  · exact m _ _ _ _ _ _ hq he h
  · exact m _ _ _ _ _ _ hq he h
  · exact m _ _ _ _ _ _ hq he h
  · exact m _ _ _ _ _ _ hq he h
  · exact h
def wDIx (i : Nat) (wk : PW) : PW := wDs i fun s ρ Q E => wk ρ (fun k => dIx (atSl s k) Q) E
/-- a dict that is no mark -/
def Nm (ps : List (PyData × PyData)) : Prop := ∀ b d, ps ≠ [(.bool b, d)]
def NmS : Sl → Prop
  | .sh (.dict ps) => Nm ps
  | _ => True
theorem mono_dIx {o : Option (Option PyData)} {Q Q' : PyData → Prop} (hq : ∀ d, Q d → Q' d) (h : dIx o Q) : dIx o Q' := by
  unfold dIx at h ⊢
  split at h
  · exact hq _ h
  · exact h
theorem mono_dGet {o : Option (Option PyData)} {x : PyData} {Q Q' : PyData → Prop} (hq : ∀ d, Q d → Q' d) (h : dGet o x Q) : dGet o x Q' := by
  unfold dGet at h ⊢
  split at h
  · exact hq _ h
  · exact h
theorem slot_v {i : Nat} {s : Sl} (r : Rep T K G ρ σ H) (hd : ρ[i]? = some s) (hs : s.isD = true) : ∃ v, σ[i]? = some (some v) ∧ SlOk K T.dc G.O H s (some v) := by
  obtain ⟨u, h1, h2⟩ := r.slot i s hd
  cases s with
  | ok _ => have h2' := h2; obtain ⟨a, _, rfl, _⟩ := h2'; exact ⟨_, h1, h2⟩
  | ot _ => have h2' := h2; obtain ⟨a, _, rfl, _⟩ := h2'; exact ⟨_, h1, h2⟩
  | ln _ _ => have h2' := h2; obtain ⟨rfl, _⟩ := h2'; exact ⟨_, h1, h2⟩
  | sh _ => have h2' := h2; obtain ⟨a, rfl, _⟩ := h2'; exact ⟨_, h1, h2⟩
  | sk _ => have h2' := h2; obtain ⟨a, rfl, _⟩ := h2'; exact ⟨_, h1, h2⟩
  | _ => cases hs
theorem slot_isd {D0 O : List Addr} {s : Sl} {v : V} (h2 : SlOk K D0 O H s (some v)) (hs : s.isD = true) (hm : NmS s) : ∃ a, v = .ref a ∧ IsD H a := by
  cases s with
  | ok _ => obtain ⟨a, vs, e, _, h4, _⟩ := h2; cases e; exact ⟨_, rfl, .inl ⟨_, .inl h4⟩⟩
  | ot _ => obtain ⟨a, vs, e, _, h4, _⟩ := h2; cases e; exact ⟨_, rfl, .inr ⟨_, .inl h4⟩⟩
  | ln a l =>
    obtain ⟨e, _, o, h3, hl⟩ := h2
    cases e
    cases l with
    | l _ => cases hs
    | t _ => obtain ⟨vs, rfl, _⟩ := hl; exact ⟨_, rfl, .inr ⟨_, .inl h3⟩⟩
  | sk _ => obtain ⟨x, e, a, ob, vs, rfl, h4, _⟩ := h2; cases e; exact ⟨_, rfl, .inl ⟨_, .inr ⟨ob, (hide_some h4).2⟩⟩⟩
  | sh d =>
    obtain ⟨x, e, h4⟩ := h2
    cases e
    cases d with
    | dict ps => cases h4 with
      | dk h5 _ => exact ⟨_, rfl, .inl ⟨_, .inl (hide_some h5).2⟩⟩
      | dt h5 _ _ => exact ⟨_, rfl, .inr ⟨_, .inl (hide_some h5).2⟩⟩
      | dte h5 => exact ⟨_, rfl, .inr ⟨_, .inl (hide_some h5).2⟩⟩
      | ob h5 => exact (hm _ _ rfl).elim
      | pt h5 _ _ _ => exact (hm _ _ rfl).elim
    | _ => cases hs
  | _ => cases hs
theorem slot_again {i : Nat} {s : Sl} {v : V} (r : Rep T K G ρ σ H) (hd : ρ[i]? = some s) (hv : σ[i]? = some (some v)) : SlOk K T.dc G.O H s (some v) := by
  obtain ⟨u, h1, h2⟩ := r.slot i s hd
  rw [h1] at hv
  cases hv
  exact h2
theorem de_dcx {i : Nat} {wk : PW} {k : Nat} (hr : Room k X.A) (ho : PE X a (tVar i)) (hk : DE T X W b wk) (hs : NoSl b) : DE T X W (.Subscript a b pos) (wDIx i wk) :=
  ⟨pe_mono (pe_dget (hu_of hr) ho hk.pe hs) fun σ H Q q => by
    obtain ⟨G, ρ, r, q⟩ := q
    obtain ⟨s, hd, hs, q⟩ := wDs_elim q
    obtain ⟨v, h1, h2⟩ := slot_v r hd hs
    refine ⟨v, h1, lift_intro hk.mono r (hk.mono _ _ _ _ _ (fun d hd' y H1 r1 e1 a1 => ?_) (fun _ z => z) q)⟩
    unfold dIx at hd'
    split at hd'
    · rename_i d' ho
      obtain ⟨a', o', e', g1, g2, g3⟩ := sl_get (slot_again r1 hd h1) a1 ho
      cases e'
      cases o' with
      | none => exact g3.elim
      | some v' => exact ⟨_, _, rfl, g2, hd' v' H1 r1 g3⟩
    · exact hd'.elim, mono_Ds fun s ρ Q Q' E E' hq he h => hk.mono _ _ _ _ _ (fun d hd => mono_dIx hq hd) he h⟩
end
end PL
set_option Elab.async false
set_option linter.all false
set_option maxRecDepth 100000
set_option maxHeartbeats 2000000
namespace PL
open PySem PySem.Spec PyProof.Rows L2
open LamX (ExtN Tabs TabS)
section
variable {T : Tb} {X : Cx} {W : WX} {pos p pos' apos cpos : Pos} {e a b c f : Expr} {es : List Expr} {st : Stmt} {K : PySem.W.Frag} {G G2 : Gh} {ρ ρ2 : En} {σ σ2 : L2.St} {H H' : Hp} {D : Ends}
inductive AllB (D0 : List Addr) (K : PySem.W.Frag) (ρ : En) (σ : L2.St) (O0 O : List Addr) (H : Hp) : List V → List Sl → Prop
  | nil : AllB D0 K ρ σ O0 O H [] []
  | cons {v : V} {vs : List V} {s : Sl} {ss : List Sl} : SlOk K D0 O H s (some v) → (s.owned = true → ∃ a, v = .ref a ∧ Apt ρ σ a ∧ a ∉ O0 ∧ ∀ (j : Nat) (t : Sl), ss[j]? = some t → t.owned = true → vs[j]? ≠ some (.ref a)) → (∀ c, s.away c) → AllB D0 K ρ σ O0 O H vs ss → AllB D0 K ρ σ O0 O H (v :: vs) (s :: ss)
def liftBs (T : Tb) (K : PySem.W.Frag) (W : WX) (w : PWp) : TA := fun σ H Q => ∃ G ρ, Rep T K G ρ σ H ∧ w ρ (fun ss => ∀ vs O' H', Rep T K ⟨G.Hb, O', G.fl⟩ ρ σ H' → (∀ b ∈ G.O, b ∈ O') → AllB T.dc K ρ σ G.O O' H' vs ss → Q vs H') (exOut T K W G ρ σ)
structure DB (T : Tb) (X : Cx) (W : WX) (es : List Expr) (w : PWp) : Prop where
  pa : PA X es (liftBs T X.K W w)
  mono : Mono w
theorem AllB.length {D0 O0 O : List Addr} : ∀ {vs : List V} {ss : List Sl}, AllB D0 K ρ σ O0 O H vs ss → vs.length = ss.length
  | _, _, .nil => rfl
  | _, _, .cons _ _ _ r => congrArg (· + 1) (AllB.length r)
theorem AllB.sub {D0 O0 O1 O : List Addr} (h : ∀ b ∈ O0, b ∈ O1) : ∀ {vs : List V} {ss : List Sl}, AllB D0 K ρ σ O1 O H vs ss → AllB D0 K ρ σ O0 O H vs ss
  | _, _, .nil => .nil
  | _, _, .cons h1 h2 hw r => .cons h1 (fun z => by obtain ⟨a, e, h3, h4, h5⟩ := h2 z; exact ⟨a, e, h3, fun y => h4 (h a y), h5⟩) hw (AllB.sub h r)
theorem AllB.ext {D0 O0 O : List Addr} (e : ExtN (hide O H) (hide O H')) (ho : ∀ a ∈ O, a ∉ D0 → H' a = H a) : ∀ {vs : List V} {ss : List Sl}, AllB D0 K ρ σ O0 O H vs ss → AllB D0 K ρ σ O0 O H' vs ss
  | _, _, .nil => .nil
  | _, _, .cons h1 h2 hw r => .cons (h1.ext e ho) h2 hw (AllB.ext e ho r)
theorem liftBs_intro {w : PWp} {R : List V → Hp → Prop} (m : Mono w) (r : Rep T K G ρ σ H)
    (h : w ρ (fun ss => ∀ vs O' H', Rep T K ⟨G.Hb, O', G.fl⟩ ρ σ H' → ExtN (hide G.O H) (hide O' H') → (∀ b ∈ G.O, b ∈ O') → AllB T.dc K ρ σ G.O O' H' vs ss → R vs H') (exOut T K W G ρ σ)) : liftBs T K W w σ H R :=
  ⟨⟨hide G.O H, G.O, G.fl⟩, ρ, r.rebase, m _ _ _ _ _ (fun d hd vs O' H' r' s a => hd vs O' H' (r'.unbase (G := ⟨G.Hb, O', G.fl⟩) r.ext) r'.ext s a) (fun x hx H' cls dd r' q => hx H' cls dd (r'.unbase r.ext) q) h⟩
theorem ExR.ext {x : Exn} {cls : Value} {dd : Option Addr} (h : ExR K x cls dd H) (e : ExtN H H') : ExR K x cls dd H' := by
  refine ⟨h.1, ?_⟩
  have h2 := h.2
  split at h2
  · exact h2
  · obtain ⟨a, v, h3, h4, h5⟩ := h2
    exact ⟨a, v, h3, e _ _ h4 (fun ps z => by cases z), h5.ext e⟩
theorem db_nil : DB T X W [] wpNil := ⟨⟨fun p pins s σ H Q I h => pa_nil.run p pins s σ H Q I (by
  obtain ⟨G, ρ, r, q⟩ := h
  exact q [] G.O H r (fun _ z => z) .nil)⟩, fun _ _ _ _ _ hq _ h => hq _ h⟩
theorem db_sh {w : PW} {ws : PWp} (ha : DE T X W e w) (hr : DB T X W es ws) (hs : starEach (e :: es) X.env = (false, eval e X.env) :: starEach es X.env := by rfl) : DB T X W (e :: es) (wpSh w ws) :=
  ⟨⟨fun p pins s σ H Q I h => (pa_cons ha.pe hr.pa hs).run p pins s σ H Q I (by
    obtain ⟨G, ρ, r, q⟩ := h
    refine lift_intro ha.mono r (ha.mono _ _ _ _ _ (fun d hd v H1 r1 e1 a1 => ?_) (fun _ z => z) q)
    refine liftBs_intro hr.mono r1 (hr.mono _ _ _ _ _ (fun ss hss vs O' H2 r2 e2 s2 a2 => ?_) (fun _ z => z) hd)
    exact hss _ O' H2 r2 s2 (.cons ⟨v, rfl, a1.ext e2⟩ (fun z => by cases z) (fun _ => trivial) a2))⟩, fun ρ Q Q' E E' hq he h => ha.mono _ _ _ _ _ (fun d hd => hr.mono _ _ _ _ _ (fun ss hss => hq _ hss) he hd) he h⟩
def setE : En → List Nat → List Sl → En
  | ρ, i :: is, s :: ss => setE (ρ.set i s) is ss
  | ρ, _, _ => ρ
def setV : L2.St → List Nat → List V → L2.St
  | σ, i :: is, v :: vs => setV (σ.set i (some v)) is vs
  | σ, _, _ => σ
theorem Apt.setSl {i : Nat} {s : Sl} {v : V} {b : Addr} (h : Apt ρ σ b) (hv : s.owned = true → v ≠ .ref b) (hw : s.away b) : Apt (ρ.set i s) (σ.set i (some v)) b := fun j t hj ht => by
  refine ⟨fun e => ?_, away_set (fun hj => (h j t hj ht).2) hw hj⟩
  by_cases z : i = j
  · subst z
    by_cases hl : i < ρ.length
    · rw [List.getElem?_set_self hl] at hj
      cases hj
      by_cases hl2 : i < σ.length
      · rw [List.getElem?_set_self hl2] at e
        cases e
        exact hv ht rfl
      · rw [List.getElem?_eq_none (by rw [List.length_set]; omega)] at e; cases e
    · rw [List.getElem?_eq_none (by rw [List.length_set]; omega)] at hj; cases hj
  · rw [List.getElem?_set_ne z] at hj e
    exact (h j t hj ht).1 e
theorem AllB.setSl {D0 O0 O : List Addr} {i : Nat} {s : Sl} {v : V} : ∀ {vs : List V} {ss : List Sl}, AllB D0 K ρ σ O0 O H vs ss → (s.owned = true → ∃ a, v = .ref a ∧ ∀ (j : Nat) (t : Sl), ss[j]? = some t → t.owned = true → vs[j]? ≠ some (.ref a)) → (∀ c, s.away c) → AllB D0 K (ρ.set i s) (σ.set i (some v)) O0 O H vs ss
  | _, _, .nil, _, _ => .nil
  | _, _, .cons h1 h2 hw r, h, hs => .cons h1 (fun z => by
      obtain ⟨b, e, h3, h4, h5⟩ := h2 z
      refine ⟨b, e, h3.setSl (fun z2 e2 => ?_) (hs b), h4, h5⟩
      obtain ⟨a, e3, h6⟩ := h z2
      rw [e3] at e2
      cases e2
      exact h6 0 _ rfl z (by rw [e]; rfl)) hw (AllB.setSl r (fun z => by
      obtain ⟨a, e3, h6⟩ := h z
      exact ⟨a, e3, fun j t hj ht => h6 (j + 1) t (by simpa using hj) ht⟩) hs)
theorem Rep.setAll {O0 : List Addr} : ∀ {is : List Nat} {vs : List V} {ss : List Sl} {ρ : En} {σ : L2.St}, AllB T.dc K ρ σ O0 G.O H vs ss → Rep T K G ρ σ H → FlApt G.fl ρ σ → (∀ q ∈ G.fl, q.1 ∈ O0) → Rep T K G (setE ρ is ss) (setV σ is vs) H ∧ FlApt G.fl (setE ρ is ss) (setV σ is vs)
  | [], vs, ss, ρ, σ, h, r, fa, hf => by cases h <;> exact ⟨r, fa⟩
  | i :: is, _, _, ρ, σ, .nil, r, fa, hf => ⟨r, fa⟩
  | i :: is, _, _, ρ, σ, .cons (v := v) (vs := vs) (s := s) (ss := ss) h1 h2 hw h3, r, fa, hf => by
    show Rep T K G (setE (ρ.set i s) is ss) (setV (σ.set i (some v)) is vs) H ∧ FlApt G.fl (setE (ρ.set i s) is ss) (setV (σ.set i (some v)) is vs)
    refine Rep.setAll (is := is) (h3.setSl (fun z => by obtain ⟨a, e, _, _, h5⟩ := h2 z; exact ⟨a, e, h5⟩) hw) (r.setSl h1 fun z b eb j t hj hjt ht => ?_) (fa.setSl (fun z q hq e => ?_) fun q _ => hw q.1) hf
    · obtain ⟨a, e, ap, _, _⟩ := h2 z
      rw [eb] at e
      cases e
      exact (ap j t hjt ht).1
    · obtain ⟨a, e', _, h4, _⟩ := h2 z
      rw [e'] at e
      cases e
      exact h4 (hf q hq)
def sParN (is : List Nat) (w : PWp) : SW := fun ρ D => w ρ (fun ss => ss.length = is.length ∧ D.nx (setE ρ is ss)) D.ex
theorem mono_ParN {is : List Nat} {w : PWp} (m : Mono w) : MonoS (sParN is w) := fun ρ D D' l q => m _ _ _ _ _ (fun ss hs => ⟨hs.1, l.nx _ hs.2⟩) l.ex q
theorem parN_imp {is : List Nat} {w : PWp} {R : List V → Hp → Prop} (m : Mono w) (q : liftS T K W (sParN is w) D σ H) (h : ∀ vs H', vs.length = is.length → D.nx (setV σ is vs) H' → R vs H') : liftBs T K W w σ H R := by
  obtain ⟨G, ρ, r, fa, q⟩ := q
  refine ⟨G, ρ, r, m _ _ _ _ _ (fun ss hs vs O' H1 r1 sb a1 => ?_) (fun _ z => ex_out' z) q⟩
  obtain ⟨r2, fa2⟩ := Rep.setAll (G := ⟨G.Hb, O', G.fl⟩) (is := is) a1 r1 fa (fun q hq => (r.fly q hq).1)
  exact h vs H1 (a1.length.trans hs.1) (hs.2 _ H1 O' r2 fa2)
theorem ds_par2 {i j : Nat} {x y : Str} {px py pt : Pos} {kt k2 pt2} {w : PWp} (hc : X.calm = true) (hN : X.N.Nodup) (hi : X.N[i]? = some x) (hj : X.N[j]? = some y) (hij : i ≠ j)
    (hx : X.env.scope.names.lookup x = some .local) (hy : X.env.scope.names.lookup y = some .local) (ha : DB T X W [a, b] w)
    (hw : swappedStores [.Tuple [.Name x px, .Name y py] kt pt] (.Tuple [a, b] k2 pt2) X.env = pure (some [x, y]))
    (hs : swapsWithSole [.Tuple [.Name x px, .Name y py] kt pt] (.Tuple [a, b] k2 pt2) pos.line X.env = pure false := by rfl) : DS T X W (.Assign [.Tuple [.Name x px, .Name y py] kt pt] (.Tuple [a, b] k2 pt2) pos) (sParN [i, j] w) :=
  ⟨ps_mono (ps_par hc hN hi hj hij hx hy ha.pa hw hs) fun D σ H q => parN_imp ha.mono q fun vs H' hl hn => by
    match vs, hl with
    | [v, u], _ => exact ⟨v, u, rfl, hn⟩, mono_ParN ha.mono⟩
/-- targets that are names, in order -/
inductive TNames (X : Cx) : List Expr → List Nat → TGs → Prop
  | nil : TNames X [] [] gNil
  | cons {e : Expr} {es : List Expr} {i : Nat} {is : List Nat} {t : TGs} : TNames X es is t → TNames X (e :: es) (i :: is) (gCons (gName i) t)
theorem tnames_set {is : List Nat} {t : TGs} {ts : List Expr} (h : TNames X ts is t) : ∀ {vs : List V} {σ : L2.St} {H : Hp} {R : L2.St → Hp → Prop}, vs.length = is.length → R (setV σ is vs) H → t vs σ H R := by
  induction h with
  | nil => intro vs σ H R hl hr; cases vs with
    | nil => exact ⟨rfl, hr⟩
    | cons _ _ => cases hl
  | cons h ih => intro vs σ H R hl hr; cases vs with
    | nil => cases hl
    | cons v r => exact ⟨v, r, rfl, ih (Nat.succ.inj hl) hr⟩
theorem ds_parT {ts : List Expr} {is : List Nat} {t : TGs} {n k k2 : Nat} {pt pt2 : Pos} {w : PWp} (hc : X.calm = true) (ha : DB T X W es w) (hg : PGs X ts t) (ht : TNames X ts is t) (hn : (assignEach ts X.env).length = n := by rfl) (hst : (assignEach ts X.env).findIdx? (·.1) = none := by rfl) (hni : is.length = n := by rfl)
    (hz : n ≤ sizeLine := by rw [sizeLine_eq]; decide) (hs : swapsWithSole [.Tuple ts k pt] (.Tuple es k2 pt2) pos.line X.env = pure false := by rfl) (hw : swappedStores [.Tuple ts k pt] (.Tuple es k2 pt2) X.env = pure none := by rfl)
    (h1 : (assignEach [.Tuple ts k pt] X.env).map (·.2) = [assign (.Tuple ts k pt) X.env] := by rfl) : DS T X W (.Assign [.Tuple ts k pt] (.Tuple es k2 pt2) pos) (sParN is w) :=
  ⟨ps_mono (ps_asg (pe_tup ha.pa) (pg_tup hc hg hn hst) hs hw h1) fun D σ H q => by
    obtain ⟨G, ρ, r, fa, q⟩ := q
    refine ⟨G, ρ, r, ha.mono _ _ _ _ _ (fun ss hs vs O' H1 r1 sb a1 => ?_) (fun _ z => ex_out' z) q⟩
    have hl : vs.length = is.length := a1.length.trans hs.1
    refine ⟨by rw [hl, hni]; exact hz, fun p hp => ⟨p, vs, rfl, SqT.of upd_same, by rw [hl, hni], tnames_set ht hl ?_⟩⟩
    have r2 := r1.alloc (H' := upd H1 p (.tup vs)) fun b o eb => by rw [upd_ne (ne_of_none eb hp)]; exact eb
    have a2 : AllB T.dc X.K ρ σ G.O O' (upd H1 p (.tup vs)) vs ss := by
      have eh : ExtN (hide O' H1) (hide O' (upd H1 p (.tup vs))) := ext_hide fun b o _ eb _ => by rw [upd_ne (ne_of_none eb hp)]; exact eb
      exact a1.ext eh fun b hb _ => by obtain ⟨o, ho, _⟩ := r1.dom b hb; exact upd_ne (ne_of_none ho hp)
    obtain ⟨r3, fa3⟩ := Rep.setAll (G := ⟨G.Hb, O', G.fl⟩) (is := is) a2 r2 fa (fun q hq => (r.fly q hq).1)
    exact hs.2 _ _ O' r3 fa3, mono_ParN ha.mono⟩
end
end PL
set_option Elab.async false
set_option linter.all false
set_option maxRecDepth 100000
set_option maxHeartbeats 2000000
namespace PL
open PySem PySem.Spec PyProof.Rows L2
open LamX (ExtN Tabs TabS)
section
variable {T : Tb} {X : Cx} {W : WX} {pos p pos' apos cpos tpos : Pos} {e a b c f : Expr} {es : List Expr} {st : Stmt} {K : PySem.W.Frag} {G G2 : Gh} {ρ ρ2 : En} {σ σ2 : L2.St} {H H' : Hp} {D : Ends}
theorem DaAll.dropLast : ∀ {vs : List V} {ds : List PyData}, DaAll K H vs ds → DaAll K H vs.dropLast ds.dropLast
  | _, _, .nil => .nil
  | _, _, .cons _ .nil => .nil
  | _, _, .cons h (.cons h2 r) => .cons h (DaAll.dropLast (.cons h2 r))
end
end PL
set_option Elab.async false
set_option linter.all false
set_option maxRecDepth 100000
set_option maxHeartbeats 2000000
namespace PL
open PySem PySem.Spec PyProof.Rows L2 LamX
structure LamP (sc scope : Scope) (p : Str) : Prop where
  kind : scope.kind = .function
  co : scope.isCoroutine = false
  gen : scope.isGenerator = false
  par : scope.names.lookup p = some .local
  own : ∀ y ∈ scope.names, y.2 ≠ .cell
  loc : ∀ y ∈ scope.names, scope.names.lookup y.1 = some y.2 ∧ (y.2 = .local → y.1 = p)
  free : ∀ y ∈ scope.names, y.2 = .free → sc.names.lookup y.1 = some .cell ∨ sc.names.lookup y.1 = some .free
section
variable {X : Cx} {pins : List (Addr × Obj)} {σ : L2.St} {H : Hp} {s : Shared}
theorem LamP.has {scope : Scope} {p : Str} (L : LamP X.env.scope scope p) (ok : X.Ok) : ∀ y ∈ scope.names, y.2 = .free → ∃ c, X.env.cells.lookup y.1 = some c := fun y hy e => ok.has y.1 ((L.free y hy e).elim .inl .inr)
end
end PL
set_option Elab.async false
set_option linter.all false
set_option maxRecDepth 100000
set_option maxHeartbeats 4000000
namespace PL
open PySem PySem.Spec PyProof.Rows L2 LamX
section
variable {X : Cx} {pins : List (Addr × Obj)} {σ : L2.St} {H : Hp} {s : Shared} {T : Tb} {G : Gh} {ρ : En}
/-- an object that nobody tracks, and that may change -/
structure Loose (X : Cx) (pins : List (Addr × Obj)) (H : Hp) (a : Addr) : Prop where
  no : H a = none
  big : X.s_0.heap.objs.size ≤ a
  loc : a ≠ X.env.locals
  cell : ∀ x c, X.env.cells.lookup x = some c → c ≠ a
  pin : ∀ p ∈ X.pn ++ pins, p.1 ≠ a
  fs : a ∉ X.fs
theorem Loose.some {a : Addr} (l : Loose X pins H a) {H' : Hp} (h : H' a = none) {pins' : List (Addr × Obj)} (hp : ∀ p ∈ pins', p ∈ pins ∨ p.1 ≠ a) : Loose X pins' H' a :=
  ⟨h, l.big, l.loc, l.cell, fun p q => (List.mem_append.mp q).elim (fun z => l.pin p (List.mem_append_left _ z)) fun z => (hp p z).elim (fun y => l.pin p (List.mem_append_right _ y)) id, l.fs⟩
end
end PL
set_option Elab.async false
set_option linter.all false
set_option maxRecDepth 100000
set_option maxHeartbeats 4000000
namespace PL
open PySem PySem.Spec PyProof.Rows L2 LamX
end PL
set_option Elab.async false
set_option linter.all false
set_option maxRecDepth 100000
set_option maxHeartbeats 4000000
namespace PL
open PySem PySem.Spec PyProof.Rows L2 LamX
section
variable {X : Cx} {pins : List (Addr × Obj)} {σ : L2.St} {H H' : Hp} {s : Shared} {T : Tb} {G : Gh} {ρ : En} {W : WX} {K : PySem.W.Frag}
/-- a list, or a range from nought -/
def KVal (K : PySem.W.Frag) (H : Hp) (v : V) (ds : List PyData) : Prop :=
  (∃ a vs, v = .ref a ∧ H a = some (.lst vs) ∧ DaAll K H vs ds) ∨ ∃ (a : Addr) (n : Int), v = .ref a ∧ H a = some (.rng 0 n) ∧ 0 ≤ n ∧ n ≤ 100000 ∧ ds = rangeD 0 n.toNat
theorem KVal.ext {v : V} {ds : List PyData} (h : KVal K H v ds) (e : ExtN H H') : KVal K H' v ds := by
  rcases h with ⟨a, vs, h1, h2, h3⟩ | ⟨a, n, h1, h2, h3⟩
  · exact .inl ⟨a, vs, h1, e _ _ h2 (fun ps z => by cases z), h3.ext e⟩
  · exact .inr ⟨a, n, h1, e _ _ h2 (fun ps z => by cases z), h3⟩
end
end PL
set_option Elab.async false
set_option linter.all false
set_option maxRecDepth 100000
set_option maxHeartbeats 2000000
namespace PL
open PySem PySem.Spec PyProof.Rows L2
open LamX (ExtN Tabs TabS)
end PL
set_option Elab.async false
set_option linter.all false
set_option maxRecDepth 100000
set_option maxHeartbeats 2000000
namespace KSet
open PySem PySem.Spec PyProof.Rows L2
def bk (v : Value) : Key := match v with
  | .int k _ => .inl k
  | .str x _ => .inr x
  | _ => .inl 0
def Ent (P : Program) (w : World) (e : Int × Value) : Prop := (mixKind P w).is (bk e.2) e.2 = true ∧ e.1 = (mixKind P w).hash (bk e.2) ∧ e.2.scannable = true
/-- the set at a; ks its members -/
structure Tb (P : Program) (w : World) (M : Array (Int × Value)) (tb : SetTable) (ks : List Key) : Prop where
  ent : ∀ e ∈ M.toList, Ent P w e
  per : (M.toList.map fun e => bk e.2).Perm ks
  nod : ks.Nodup
  few : M.size < scanBound
  fit : tb.fits M.size = true
  ris : Ris tb.place.toList
  led : w.params.followText "set-order" = true ∨ tb.led = true
def SetQ (P : Program) (w : World) (h : Heap) (a : Addr) (ks : List Key) : Prop := ∃ ob M ep tb, h.get? a = some ob ∧ ob.ExactSet ∧ ob.data = .set M ep tb ∧ Tb P w M tb ks
section
variable {P : Program} {w : World} {A : Around} {E : Value → Shared → Prop} {s : Shared} {a : Addr} {ks : List Key} {k : Key} {x : Value}
theorem bk_is {k : Key} {v : Value} (h : (mixKind P w).is k v = true) : bk v = k := by
  rcases keyIs_shape h with ⟨i, t, rfl, rfl⟩ | ⟨y, t, rfl, rfl⟩ <;> rfl
theorem Tb.mem {M : Array (Int × Value)} {tb : SetTable} (B : Tb P w M tb ks) (k : Key) : k ∈ ks ↔ ∃ e ∈ M.toList, (mixKind P w).is k e.2 = true := by
  rw [← B.per.mem_iff, List.mem_map]
  refine ⟨fun ⟨e, he, q⟩ => ⟨e, he, by rw [← q]; exact (B.ent e he).1⟩, fun ⟨e, he, q⟩ => ⟨e, he, bk_is q⟩⟩
theorem Tb.size {M : Array (Int × Value)} {tb : SetTable} (B : Tb P w M tb ks) : M.size = ks.length := by
  have := B.per.length_eq
  rwa [List.length_map, Array.length_toList] at this
theorem SetQ.at {h h' : Heap} (R : SetQ P w h a ks) (kp : ∀ o, h.get? a = some o → h'.get? a = some o) : SetQ P w h' a ks := by
  obtain ⟨ob, M, ep, tb, ho, r⟩ := R
  exact ⟨ob, M, ep, tb, kp ob ho, r⟩
end
variable {X : Cx}
end KSet
set_option Elab.async false
set_option linter.all false
set_option maxRecDepth 100000
set_option maxHeartbeats 2000000
namespace KSet
open PySem PySem.Spec PyProof.Rows L2
end KSet
set_option Elab.async false
set_option linter.all false
set_option maxRecDepth 100000
set_option maxHeartbeats 2000000
namespace PL
open PySem PySem.Spec PyProof.Rows L2 KSet
open LamX (ExtN Tabs TabS)
end PL
set_option Elab.async false
set_option linter.all false
set_option maxRecDepth 100000
set_option maxHeartbeats 2000000
namespace PL
open PySem PySem.Spec PyProof.Rows L2 KSet
open LamX (ExtN Tabs TabS)
end PL
set_option Elab.async false
set_option linter.all false
set_option maxRecDepth 100000
set_option maxHeartbeats 2000000
namespace KSetT
open PySem PySem.Spec PyProof.Rows L2 KSet
end KSetT
set_option Elab.async false
set_option linter.all false
set_option maxRecDepth 100000
set_option maxHeartbeats 2000000
namespace PL
open PySem PySem.Spec PyProof.Rows L2 KSet KSetT
open LamX (ExtN Tabs TabS)
end PL
set_option Elab.async false
set_option linter.all false
set_option maxRecDepth 100000
set_option maxHeartbeats 2000000
namespace PL
open PySem PySem.Spec PyProof.Rows L2
open LamX (ExtN Tabs TabS)
def tyD : PyData → String
  | .none => "NoneType"
  | .bool _ => "bool"
  | .int _ => "int"
  | .str _ => "str"
  | .list _ => "list"
  | .tuple _ => "tuple"
  | .dict _ => "dict"
def isTy (a b : String) : Bool := a == b || (a == "bool" && b == "int")
section
variable {T : Tb} {X : Cx} {W : WX} {pos p p2 : Pos} {e a b c : Expr} {K : PySem.W.Frag} {G : Gh} {ρ ρ2 : En} {σ σ2 : L2.St} {H H' : Hp}
def nDc : PyData → Prop
  | .dict _ => False
  | _ => True
theorem tyX_of {v : V} {d : PyData} (h : Da K H v d) (n : nDc d) : TyX K H v (.type (tyD d)) := by
  cases h with
  | ob _ => exact n.elim
  | pt _ _ _ _ => exact n.elim
  | non => exact .base .non
  | bl b => exact .base (.bl b)
  | int i => exact .base (.int i)
  | str x => exact .base (.str x)
  | lst h _ => exact .base (.lst h)
  | tup h _ => exact .base (.tup h)
  | ftup h _ _ _ => exact .fTuple h
  | dk h _ => exact .base (.dK h)
  | dt h _ _ => exact .base (.dT h)
  | dte h => exact .base (.dT h)
def KitT (t : String) : Prop := ∀ (K : PySem.W.Frag) (d : PyData), PySem.W.kitOne K (.type (tyD d)) (.type t) = some (isTy (tyD d) t)
theorem kit_tuple : KitT "tuple" := fun K d => by cases d <;> kernel_rfl
theorem kit_int : KitT "int" := fun K d => by cases d <;> kernel_rfl
theorem kit_bool : KitT "bool" := fun K d => by cases d <;> kernel_rfl
def wIsi (t : String) (w : PW) : PW := fun ρ Q E => w ρ (fun d => nDc d ∧ Q (.bool (isTy (tyD d) t))) E
theorem de_isi {w : PW} {x : Str} {t : String} (kt : KitT t) (hb : bootBuiltins x = some (.type t)) (hg : Gl X "isinstance") (hm : X.mg "isinstance" = none) (hg2 : Gl X x) (hm2 : X.mg x = none) (he : DE T X W e w) (hn : x ≠ "__name__" := by decide) (hd : (x == ("__debug__" : Str)) = false := by decide)
    (hs : starEach [e, .Name x p2] X.env = (false, eval e X.env) :: starEach [.Name x p2] X.env := by rfl) (hs2 : starEach [.Name x p2] X.env = (false, eval (.Name x p2) X.env) :: starEach [] X.env := by rfl) (hpl : (backTo pos (starEach [.Name x p2] X.env)).any (·.1) = false := by rfl) :
    DE T X W (.Call (.Name "isinstance" p) [e, .Name x p2] [] pos) (wIsi t w) := by
  have pt : PE X (.Name x p2) (tC (.ty t)) := ⟨fun _ _ _ H _ I h => ld_blt I hg2 hm2 hb ⟨.ty t, H, I, rfl, h⟩ hn hd⟩
  refine ⟨pe_mono (pe_callB (call_isi (X := X)) hg hm (by decide +kernel : bootBuiltins "isinstance" = some (.builtin "isinstance")) (pa_cons he.pe (pa_cons pt pa_nil hs2) hs) (by decide) (by decide) hs hpl) fun σ H Q q => ?_, fun ρ Q Q' E E' hq he' q => he.mono _ _ _ _ _ (fun d hd => ⟨hd.1, hq _ hd.2⟩) he' q⟩
  obtain ⟨G, ρ, r, q⟩ := q
  refine ⟨G, ρ, r, he.mono _ _ _ _ _ (fun d hd v H' r' a => ?_) (fun _ z => z) q⟩
  exact ⟨v, .ty t, .type (tyD d), .type t, isTy (tyD d) t, rfl, .ty t, tyX_of a.whole hd.1, kt _ _, hd.2 _ H' r' (.bl _)⟩
end
end PL
set_option Elab.async false
set_option linter.all false
set_option maxRecDepth 100000
set_option maxHeartbeats 2000000
namespace PL
open PySem PySem.Spec PyProof.Rows L2
open LamX (ExtN Tabs TabS)
section
variable {T : Tb} {X : Cx} {W : WX} {pos p p2 pos' pos2 : Pos} {e a b c : Expr} {es : List Expr} {st : Stmt} {K : PySem.W.Frag} {G : Gh} {ρ ρ2 : En} {σ σ2 : L2.St} {H H' : Hp}
theorem call_tupleF : CallR X (.type "tuple") (fun xs H Q => ∃ p ys, xs = [.ref p] ∧ SqL X.K H p ys ∧ ∀ l ob, ob.dict = none → H l = none → Q (.ref l) (upd H l (.frz ob (.tup ys)))) := by
  intro pins s σ H xs us Q I r h
  obtain ⟨p, ys, rfl, hq, q⟩ := h
  obtain ⟨u, rfl, rx⟩ := vals1 r
  cases rx
  obtain ⟨its, r', pl, hz⟩ := I.list hq
  have hlen := r'.length
  refine call_tuple_list pl.isList (fun h' kp => ?_) (by simp only [List.size_toArray] <;> omega)
  have I1 : Inv X pins σ H { s with heap := h' } := I.kept (t' := s.toks) kp
  have I2 : Inv X pins σ (upd H h'.objs.size (.frz { cls := .type "tuple", data := .seq its.toArray } (.tup ys))) { s with heap := h'.push { cls := .type "tuple", data := .seq its.toArray } } :=
    I1.laid (t' := s.toks) (fun b o e => Heap.get?_push_of_some _ e) (Nat.le_refl _) (show ObjOk X.prog X.w _ _ _ (.frz _ (.tup ys)) from ⟨Heap.get?_push_size _ rfl, hz, its, r', IsTup.new _ _⟩)
  exact ⟨.ref h'.objs.size, _, I2, rfl, q _ _ rfl (I1.hok.fresh (Nat.le_refl _))⟩
end
end PL
set_option Elab.async false
set_option linter.all false
set_option maxRecDepth 100000
set_option maxHeartbeats 2000000
namespace PL
open PySem PySem.Spec PyProof.Rows L2
open LamX (ExtN Tabs TabS)
end PL
set_option Elab.async false
set_option linter.all false
set_option maxRecDepth 100000
set_option maxHeartbeats 2000000
namespace PL
open PySem PySem.Spec PyProof.Rows L2
open LamX (ExtN Tabs TabS)
end PL
set_option Elab.async false
set_option linter.all false
set_option maxRecDepth 100000
set_option maxHeartbeats 2000000
namespace PL
open PySem PySem.Spec PyProof.Rows L2
open LamX (ExtN Tabs TabS)
section
variable {T : Tb} {X : Cx} {W : WX} {pos p apos cpos : Pos} {e a b c : Expr} {K : PySem.W.Frag} {G : Gh} {ρ ρ2 : En} {σ σ2 : L2.St} {H H' : Hp}
def wVGet (wo wk wx : PW) : PW := fun ρ Q E => wo ρ (fun d => match d with
  | .dict ps => Nm ps ∧ wk ρ (fun k => wx ρ (fun x => dGet (atSl (.sh (.dict ps)) k) x Q) E) E
  | _ => False) E
theorem de_vdget {wo wk wx : PW} {k : Nat} (hr : Room k X.A) (ho : DE T X W a wo) (hk : DE T X W b wk) (hx : DE T X W c wx) (m : M2 X a "get" apos b c cpos) : DE T X W (.Call (.Attribute a "get" apos) [b, c] [] cpos) (wVGet wo wk wx) :=
  ⟨pe_mono (pe_dget2 (hu_of hr) ho.pe hk.pe hx.pe m) fun σ H Q q => by
    obtain ⟨G, ρ, r, q⟩ := q
    refine lift_intro ho.mono r (ho.mono _ _ _ _ _ (fun d hd v H1 r1 e1 a1 => ?_) (fun _ z => z) q)
    cases d with
    | dict ps =>
      obtain ⟨a', rfl, isd⟩ := slot_isd (K := X.K) (D0 := T.dc) (O := G.O) (s := .sh (.dict ps)) (v := v) ⟨v, rfl, a1⟩ rfl hd.1
      refine ⟨a', rfl, isd, lift_intro hk.mono r1 (hk.mono _ _ _ _ _ (fun kd hd' y H2 r2 e2 a2 => ?_) (fun _ z => z) hd.2)⟩
      refine lift_intro hx.mono r2 (hx.mono _ _ _ _ _ (fun xd hx' z H3 r3 e3 a3 => ?_) (fun _ z => z) hd')
      unfold dGet at hx'
      split at hx'
      · rename_i o ho'
        obtain ⟨a2', o', e', g1, g2, g3⟩ := sl_get (K := X.K) (D0 := T.dc) (O := G.O) (s := .sh (.dict ps)) ⟨_, rfl, (a1.ext e2).ext e3⟩ (a2.ext e3) ho'
        cases e'
        refine ⟨o', g2, hx' _ H3 r3 ?_⟩
        cases o with
        | none => cases o' with
          | none => exact a3
          | some _ => exact g3.elim
        | some d' => cases o' with
          | none => exact g3.elim
          | some v' => exact g3
      · exact hx'.elim
    | _ => exact hd.elim, fun ρ Q Q' E E' hq he h => ho.mono _ _ _ _ _ (fun d hd => by
      cases d <;> first | exact ⟨hd.1, hk.mono _ _ _ _ _ (fun k hk => hx.mono _ _ _ _ _ (fun x hx' => mono_dGet hq hx') he hk) he hd.2⟩ | exact hd) he h⟩
end
end PL
set_option Elab.async false
set_option linter.all false
set_option maxRecDepth 100000
set_option maxHeartbeats 2000000
namespace PL
open PySem PySem.Spec PyProof.Rows L2
open LamX (ExtN Tabs TabS)
end PL
set_option Elab.async false
set_option linter.all false
set_option maxRecDepth 100000
set_option maxHeartbeats 2000000
namespace PL
open PySem PySem.Spec PyProof.Rows L2
open LamX (ExtN Tabs TabS)
section
variable {T : Tb} {X : Cx} {W : WX} {pos p p2 pos' pos2 apos cpos : Pos} {e a b c : Expr} {K : PySem.W.Frag} {G : Gh} {ρ ρ2 : En} {σ σ2 : L2.St} {H H' : Hp}
mutual
theorem reads_there {h : Heap} : ∀ {v : Value} {d : PyData} {as : List Addr}, Reads h v d as → ∀ a ∈ as, ∃ o, h.get? a = some o
  | _, _, _, .none, a, ha => by cases ha
  | _, _, _, .bool b, a, ha => by cases ha
  | _, _, _, .int i t, a, ha => by cases ha
  | _, _, _, .str x t, a, ha => by cases ha
  | _, _, _, .list h1 h2 h3 h4, a, ha => by
    rcases List.mem_cons.mp ha with rfl | ha
    · exact ⟨_, h1⟩
    · exact readsAll_there h4 a ha
  | _, _, _, .tuple h1 h2 h3 h4, a, ha => readsAll_there h4 a ha
  | _, _, _, .dict h1 h2 h3 h4 h5, a, ha => by
    rcases List.mem_append.mp ha with ha | ha
    · rcases List.mem_cons.mp ha with rfl | ha
      · exact ⟨_, h1⟩
      · exact readsAll_there h4 a ha
    · exact readsAll_there h5 a ha
theorem readsAll_there {h : Heap} : ∀ {vs : List Value} {ds : List PyData} {as : List Addr}, ReadsAll h vs ds as → ∀ a ∈ as, ∃ o, h.get? a = some o
  | _, _, _, .nil, a, ha => by cases ha
  | _, _, _, .cons h1 h2, a, ha => by
    rcases List.mem_append.mp ha with ha | ha
    · exact reads_there h1 a ha
    · exact readsAll_there h2 a ha
end
end
end PL
set_option Elab.async false
set_option linter.all false
set_option maxRecDepth 100000
set_option maxHeartbeats 2000000
namespace PL
open PySem PySem.Spec PyProof.Rows L2
open LamX (ExtN)
section
variable {X : Cx} {pins : List (Addr × Obj)} {σ : L2.St} {H : Hp} {s : Shared} {a : Addr} {o u : HO}
/-- told anew -/
theorem relab (I : Inv X pins σ H s) (h : H a = some o) (mu : Mut (some o)) (n : ObjOk X.prog X.w (upd H a u) s.heap a u) : Inv X pins σ (upd H a u) s :=
  I.write (x := a) (e := a) (t' := s.toks) (h' := s.heap) (by rw [h]; exact mu) (.inl rfl) (fun b v _ q => q) (by
    have x := I.hok a o h
    cases o with
    | lst xs => obtain ⟨_, _, _, _, e⟩ := x; exact ⟨_, e⟩
    | dK kvs => obtain ⟨_, _, _, _, o, _, _, e, _⟩ := x; exact ⟨o, e⟩
    | dT kvs => obtain ⟨_, _, _, _, o, _, _, e, _⟩ := x; exact ⟨o, e⟩
    | set S n => obtain ⟨o, _, _, _, e, _⟩ := x; exact ⟨o, e⟩
    | ins C dx fs => obtain ⟨_, _, _, e, _⟩ := x; exact ⟨_, e⟩
    | ext φ => obtain ⟨_, ⟨_, e⟩, _⟩ := x; exact ⟨_, e⟩
    | _ => exact False.elim mu) n
/-- what is known stays so -/
theorem unlab {od : Obj} (I : Inv X pins σ H s) (h : H a = some (.frz od u)) (hn : ∀ o' u', X.H_0 a ≠ some (.frz o' u')) (n : ObjOk X.prog X.w H s.heap a o) (mu : Mut (some o)) : Inv X pins σ (upd H a o) s := by
  have neH : ∀ b o, H b = some o → (∀ o' u', o ≠ .frz o' u') → b ≠ a := fun b o e hne z => by
    rw [z, h] at e
    cases e
    exact hne _ _ rfl
  have neN : ∀ b, H b = none → b ≠ a := fun b e z => by rw [z, h] at e; cases e
  refine ⟨I.ok, I.os, I.bare, ⟨I.base.keep, I.base.slot, fun b o e n hx => ?_, I.base.there, fun b xs e => ?_, fun b o x e => ?_, fun b ps e => ?_⟩, I.loc, I.cell, ?_, fun x c e => ?_, fun p hp => ?_, fun b o' e => ?_, I.len⟩
  · rw [upd_ne (neN b (I.base.free b o e n hx))]; exact I.base.free b o e n hx
  · have q := I.base.tups b xs e
    rw [upd_ne (neH b _ q (fun _ _ z => nomatch z))]; exact q
  · have q := I.base.frzs b o x e
    rw [upd_ne (fun z => by rw [z] at e; exact hn _ _ e)]; exact q
  · obtain ⟨m, q⟩ := I.base.tbls b ps e
    exact ⟨m, by rw [upd_ne (neH b _ q (fun _ _ z => nomatch z))]; exact q⟩
  · rw [upd_ne (neN _ I.free)]; exact I.free
  · rw [upd_ne (neN c (I.freeC x c e))]; exact I.freeC x c e
  · obtain ⟨e, n, r⟩ := I.pin p hp
    exact ⟨e, by rw [upd_ne (neN _ n)]; exact n, r⟩
  · have st : ∀ {b v}, ObjOk X.prog X.w H s.heap b v → ObjOk X.prog X.w (upd H a o) s.heap b v := fun {b v} x => x.stay (fun _ _ _ q => q) (fun c q => by rw [upd_ne (neH c _ q fun _ _ z => nomatch z)]; exact q) fun c xs q => by rw [upd_ne (neH c _ q fun _ _ z => nomatch z)]; exact q
    by_cases hb : b = a
    · subst hb
      rw [upd_same] at e
      cases e
      exact st n
    · rw [upd_ne hb] at e
      exact st (I.hok b o' e)
/-- an .ext is seen as u for a while; what is behind sees it as it was -/
theorem view {φ : Heap → Prop} (I : Inv X pins σ H s) (h : H a = some (.ext φ)) (n : ObjOk X.prog X.w H s.heap a u) : ∃ od, Inv X pins σ (upd H a (.frz od u)) s ∧
    ∀ H2 s', Inv X pins σ H2 s' → H2 a = some (.frz od u) → Inv X pins σ (upd H2 a (.ext φ)) s' := by
  obtain ⟨hφ, ⟨od, ho⟩, st⟩ := I.hok a _ h
  have nf : ∀ o' u', X.H_0 a ≠ some (.frz o' u') := fun o' u' e => by
    have q := I.base.frzs a o' u' e
    rw [h] at q
    cases q
  have ne : ∀ {b : Addr} {v : HO}, H b = some v → (∀ φ, v ≠ .ext φ) → b ≠ a := fun {b v} e hv z => by rw [z, h] at e; cases e; exact hv _ rfl
  refine ⟨od, relab I h trivial ⟨ho, n.stay (fun _ _ _ q => q) (fun c q => by rw [upd_ne (ne q fun _ z => by cases z)]; exact q) fun c xs q => by rw [upd_ne (ne q fun _ z => by cases z)]; exact q⟩, fun H2 s' I2 e => ?_⟩
  obtain ⟨e2, _⟩ := I2.hok a _ e
  refine unlab I2 e nf ⟨st _ _ hφ fun o ho2 => ?_, ⟨od, e2⟩, st⟩ trivial
  rw [ho] at ho2
  cases ho2
  exact e2
end
/-- seen so while e is asked -/
def tView (u : HO) (a : Addr) (t : TE) : TE := fun σ H Q => ∃ φ, H a = some (.ext φ) ∧ ∀ od, t σ (upd H a (.frz od u)) fun v H2 => H2 a = some (.frz od u) ∧ Q v (upd H2 a (.ext φ))
theorem pe_view {X : Cx} {e : Expr} {t : TE} (h : PE X e t) : PE X e (fun σ H Q => ∃ u a, (∀ pins s, Inv X pins σ H s → ObjOk X.prog X.w H s.heap a u) ∧ tView u a t σ H Q) := ⟨fun pins s σ H Q I ⟨u, a, n, φ, e, q⟩ => by
  obtain ⟨od, I1, back⟩ := view I e (n pins s I)
  exact thn (h.run pins s σ _ _ I1 (q od)) fun v s' ⟨x, H2, I2, r, e2, q2⟩ => ⟨x, _, back H2 s' I2 e2, r, q2⟩⟩
theorem pt_view {X : Cx} {e : Expr} {t : TT} (h : PT X e t) : PT X e (fun σ H Q => ∃ u a, (∀ pins s, Inv X pins σ H s → ObjOk X.prog X.w H s.heap a u) ∧ ∃ φ, H a = some (.ext φ) ∧ ∀ od, t σ (upd H a (.frz od u)) fun v H2 => H2 a = some (.frz od u) ∧ Q v (upd H2 a (.ext φ))) := ⟨fun pins s σ H Q I ⟨u, a, n, φ, e, q⟩ => by
  obtain ⟨od, I1, back⟩ := view I e (n pins s I)
  exact thn (h.run pins s σ _ _ I1 (q od)) fun v s' ⟨H2, I2, e2, q2⟩ => ⟨_, back H2 s' I2 e2, q2⟩⟩
theorem upd_back {H : Hp} {a : Addr} {o u : HO} (h : H a = some o) : upd (upd H a u) a o = H := by
  rw [upd_upd]
  funext b
  by_cases z : b = a
  · rw [z, upd_same, h]
  · rw [upd_ne z]
end PL
set_option Elab.async false
set_option linter.all false
set_option maxRecDepth 100000
set_option maxHeartbeats 2000000
namespace PL
open PySem PySem.W PySem.Calls PyProof.Rows
def keyI (k : List Int) : PyData := .tuple (k.map .int)
theorem zip_fst {α β : Type} : ∀ {vs : List α} {ns : List β}, vs.Nodup → ∀ {v : α} {k k' : β}, (v, k) ∈ vs.zip ns → (v, k') ∈ vs.zip ns → k = k'
  | [], _, _, _, _, _, h, _ => by cases h
  | _ :: _, [], _, _, _, _, h, _ => by cases h
  | x :: vs, n :: ns, nd, v, k, k', h, h' => by
    rw [List.nodup_cons] at nd
    rw [List.zip_cons_cons, List.mem_cons] at h h'
    rcases h with h | h <;> rcases h' with h' | h'
    · cases h; cases h'; rfl
    · cases h; exact absurd (List.of_mem_zip h').1 nd.1
    · cases h'; exact absurd (List.of_mem_zip h).1 nd.1
    · exact zip_fst nd.2 h h'
theorem zip_snd {α β : Type} : ∀ {vs : List α} {ns : List β}, ns.Nodup → ∀ {v v' : α} {k : β}, (v, k) ∈ vs.zip ns → (v', k) ∈ vs.zip ns → v = v'
  | [], _, _, _, _, _, h, _ => by cases h
  | _ :: _, [], _, _, _, _, h, _ => by cases h
  | x :: vs, n :: ns, nd, v, v', k, h, h' => by
    rw [List.nodup_cons] at nd
    rw [List.zip_cons_cons, List.mem_cons] at h h'
    rcases h with h | h <;> rcases h' with h' | h'
    · cases h; cases h'; rfl
    · cases h; exact absurd (List.of_mem_zip h').2 nd.1
    · cases h'; exact absurd (List.of_mem_zip h).2 nd.1
    · exact zip_snd nd.2 h h'
theorem each_zip {α β : Type} {R : α → β → Prop} : ∀ {vs : List α} {bs : List β}, vs.length = bs.length → (∀ p ∈ vs.zip bs, R p.1 p.2) → EachIs R vs bs
  | [], [], _, _ => .nil
  | [], _ :: _, h, _ => by cases h
  | _ :: _, [], h, _ => by cases h
  | v :: vs, b :: bs, h, f => .cons (f (v, b) (by rw [List.zip_cons_cons]; exact List.mem_cons_self)) (each_zip (Nat.succ.inj h) fun p hp => f p (by rw [List.zip_cons_cons]; exact List.mem_cons_of_mem _ hp))
theorem each_of {β : Type} {R : Value → β → Prop} : ∀ (as : List Addr) (ds : List β), as.length = ds.length → (∀ (j : Nat) (b : Addr) (d : β), as[j]? = some b → ds[j]? = some d → R (.ref b) d) → EachIs R (as.map Value.ref) ds
  | [], [], _, _ => .nil
  | [], _ :: _, h, _ => by cases h
  | _ :: _, [], h, _ => by cases h
  | a :: as, d :: ds, h, f => .cons (f 0 a d rfl rfl) (each_of as ds (Nat.succ.inj h) fun j b d h1 h2 => f (j + 1) b d h1 h2)
def PairV (h : Heap) (D : List Addr → Prop) (v : Value) (k : List Int) : Prop := ∃ (a : Addr) (o : Obj) (f x : Value) (n : Nat) (as : List Addr), v = .ref a ∧ h.get? a = some o ∧ o.cls = .type "tuple" ∧ o.data = .seq #[f, x] n ∧ Reads h f (keyI k) as ∧ D as
noncomputable def pairKind (vs : List Value) (ns : List (List Int)) : PyProof.Rows.KeyKind where
  toKeyOrd := listOrd itemOrd
  keyOf v := open Classical in ((vs.zip ns).find? fun p => decide (p.1 = v)).map fun p => keyToks (keyI p.2)
  dflt := ([] : List (Int ⊕ List Nat))
theorem pairKind_inv {vs : List Value} {ns : List (List Int)} {v : Value} {a : List (Int ⊕ List Nat)} (h : (pairKind vs ns).keyOf v = some a) : ∃ k, (v, k) ∈ vs.zip ns ∧ a = keyToks (keyI k) := by
  unfold pairKind at h
  obtain ⟨p, hp, rfl⟩ := Option.map_eq_some_iff.mp h
  have h1 := List.mem_of_find?_eq_some hp
  have h2 : p.1 = v := by have := List.find?_some hp; simpa using this
  exact ⟨p.2, by rw [← h2]; exact h1, rfl⟩
theorem pairKind_at {vs : List Value} {ns : List (List Int)} (nd : vs.Nodup) {v : Value} {k : List Int} (h : (v, k) ∈ vs.zip ns) : (pairKind vs ns).keyOf v = some (keyToks (keyI k)) := by
  cases e : (pairKind vs ns).keyOf v with
  | none =>
    exfalso
    unfold pairKind at e
    have e := Option.map_eq_none_iff.mp e
    rw [List.find?_eq_none] at e
    exact e _ h (decide_eq_true rfl)
  | some a =>
    obtain ⟨k', h', rfl⟩ := pairKind_inv e
    have := zip_fst nd h h'
    subst this
    rfl
theorem alike_ints : ∀ (a b : List Int), alikeAll (a.map .int) (b.map .int) = true
  | [], _ => by simp [alikeAll]
  | _ :: _, [] => by simp [alikeAll]
  | x :: r, y :: t => by
    simp only [List.map_cons, alikeAll, alike, Bool.true_and]
    exact alike_ints r t
theorem alike_keyI (a b : List Int) : alike (keyI a) (keyI b) = true := by simp only [keyI, alike]; exact alike_ints a b
theorem eqv_ints : ∀ (a b : List Int), PyData.eqvAll (a.map .int) (b.map .int) = decide (a = b)
  | [], [] => by simp [PyData.eqvAll]
  | [], _ :: _ => by simp [PyData.eqvAll]
  | _ :: _, [] => by simp [PyData.eqvAll]
  | x :: r, y :: t => by
    simp only [List.map_cons, PyData.eqvAll, eqv_ints r t, PyData.eqv]
    by_cases e : x = y
    · subst e; simp
    · simp [e]
theorem eqv_keyI (a b : List Int) : PyData.eqv (keyI a) (keyI b) = decide (a = b) := by simp only [keyI, PyData.eqv]; exact eqv_ints a b
theorem depth_key1 (k : List Int) : (keyI k).depth ≤ 1 := by
  have : ∀ k : List Int, PyData.depthAll (k.map .int) = 0 := fun k => by
    induction k with
    | nil => rfl
    | cons n r ih => simp only [List.map_cons, PyData.depthAll, PyData.depth, ih]; decide
  simp only [keyI, PyData.depth, this]
  decide
section
variable {prog : Program} {w : World} {A : Around} {s : Shared}
theorem katups {D : List Addr → Prop} {h : Heap} : ∀ {vs : List Value} {ns : List (List Int)}, EachIs (PairV h D) vs ns → ∃ fs, PySem.W.KatTups h vs fs ∧ fs.length = vs.length ∧ ∀ f ∈ fs, ∃ k as, Reads h f (keyI k) as
  | _, _, .nil => ⟨[], PySem.W.KatTups.nil, rfl, fun f hf => absurd hf (by simp)⟩
  | _, _, .cons (b := k) ⟨a, o, f, x, n, as, h1, h2, h3, h4, h5, _⟩ t => by
    obtain ⟨fs, g1, g2, g3⟩ := katups t
    subst h1
    refine ⟨f :: fs, PySem.W.KatTups.cons h2 h3 h4 rfl g1, by rw [List.length_cons, List.length_cons, g2], fun g hg => ?_⟩
    rcases List.mem_cons.mp hg with rfl | hg
    · exact ⟨k, as, h5⟩
    · exact g3 g hg
theorem sortsAt_pairs {D : List Addr → Prop} {vs : List Value} {ns : List (List Int)} (e : EachIs (PairV s.heap D) vs ns) (nv : vs.Nodup) (nn : ns.Nodup) (hu : A.units + 1 < PySem.cLine) : SortsAt prog w A s (pairKind vs ns) vs := by
  have hl := e.length
  have at1 : ∀ {v : Value} {k : List Int}, (v, k) ∈ vs.zip ns → PairV s.heap D v k := fun h => e.zip _ h
  have hT : (Value.type "tuple" != Value.type "tuple") = false := by simp
  refine ⟨fun v hv => ?_, PyProof.Rows.tuples' (Value.type "tuple" != Value.type "tuple"), fun E x y a b Q ha hb hq => ?_, fun h2 E Q hq => ?_⟩
  · obtain ⟨j, hj⟩ := List.mem_iff_getElem?.mp hv
    have hjl := (List.getElem?_eq_some_iff.mp hj).1
    refine ⟨_, pairKind_at nv (k := ns[j]'(by omega)) ?_⟩
    refine List.mem_iff_getElem?.mpr ⟨j, ?_⟩
    rw [List.getElem?_zip_eq_some]
    exact ⟨hj, List.getElem?_eq_getElem _⟩
  · obtain ⟨k, h1, rfl⟩ := pairKind_inv ha
    obtain ⟨k', h1', rfl⟩ := pairKind_inv hb
    obtain ⟨p, o, f, z, n, as, rfl, g2, g3, g4, g5, _⟩ := at1 h1
    obtain ⟨p', o', f', z', n', as', rfl, g2', g3', g4', g5', _⟩ := at1 h1'
    have room : A.units + min (keyI k).depth (keyI k').depth < PySem.cLine := by
      have := depth_key1 k
      have : min (keyI k).depth (keyI k').depth ≤ (keyI k).depth := Nat.min_le_left _ _
      omega
    refine PySem.W.kat_lt g2 g4 g2' g4' ?_
    show PySem.W.KatLex prog w A _ _ Q [(f, f'), (z, z')] 0 s
    refine PySem.W.kat_cons (PySem.W.eqAt_alike (keyI k) (keyI k') A s _ _ _ _ g5 g5' (alike_keyI k k') room prog w _ _ ?_)
    rw [eqv_keyI]
    by_cases ek : k = k'
    · subst ek
      obtain e1 := zip_snd nn h1 h1'
      injection e1 with e1
      subst e1
      rw [g2] at g2'
      cases g2'
      rw [g4] at g4'
      cases g4'
      rw [decide_eq_true rfl]
      refine PySem.W.kat_yes (PySem.W.kat_cons (PySem.SeqAt.EqAt.same _ prog w _ _ (PySem.W.kat_yes (PySem.W.kat_nil ?_))))
      have hq : Q (dataLt (keyI k) (keyI k)) s := hq
      have e0 : dataLt (keyI k) (keyI k) = false := lex_irrefl _
      rw [e0] at hq
      exact hq
    · rw [decide_eq_false ek]
      refine PySem.W.kat_no (PySem.W.oneLt_alike (fun hb => ?_) g5 g5' (alike_keyI k k') (fun z => by cases z) room hq)
      rw [hT] at hb
      cases hb
  · obtain ⟨fs, t1, t2, t3⟩ := katups e
    refine PySem.W.kat_kind (T := .type "tuple") t1 (by omega) (fun f hf => ?_) (beq_self_eq_true _) hq
    obtain ⟨k, as, m⟩ := t3 f hf
    exact PySem.W.looks_reads m
theorem list_sort_pairs {β : Type} {E : Value → Shared → Prop} {R : Value → β → Prop} {key : β → List Int} {vs : List Value} {bs : List β} {a : Addr} {n : Nat} {Q : Value → Shared → Prop} (ho : s.heap.get? a = some (seqObj "list" vs.toArray n)) (e : EachIs R vs bs) (er : EachIs (fun v b => PairV s.heap (a ∉ ·) v (key b)) vs bs)
    (nv : vs.Nodup) (nn : (bs.map key).Nodup) (hL : bs.length ≤ sizeLine) (hu : A.units + 2 < PySem.cLine) (h : ∀ out, out.length = bs.length → EachIs R out (bs.mergeSort (dataLe false fun b => keyI (key b))) → Q .none { s with heap := sortedHeap s.heap a vs (List.toArray out) }) :
    wpAny (model prog w) A (call (.builtin "list.sort") [.ref a]) Q E s := by
  have er' : EachIs (PairV (sortingHeap s.heap a vs) fun _ => True) vs (bs.map key) := by
    refine each_zip (by rw [List.length_map]; exact e.length) fun p hp => ?_
    rw [List.zip_map_right, List.mem_map] at hp
    obtain ⟨q, hq, rfl⟩ := hp
    obtain ⟨b, o, f, x, m, as, h1, h2, h3, h4, h5, h6⟩ := er.zip q hq
    have hb : b ≠ a := fun z => by
      rw [z, ho] at h2
      cases h2
      injection h3 with h3
      exact absurd h3 (by decide)
    exact ⟨b, o, f, x, m, as, h1, PySem.W.sortingHeap_old hb h2, h3, h4, PySem.W.Reads.keepBut (fun _ _ hb q => PySem.W.sortingHeap_old hb q) (fun o q => by rw [ho] at q; rw [← Option.some.inj q]) _ _ _ (alike_keyI _ _) h5 h6, trivial⟩
  refine wpAny_call_entry slot_list_sort ⟨_, ho, rfl⟩ entry_list_sort (PySem.W.list_sort_vals (κ := pairKind vs (bs.map key)) ho (sortsAt_pairs (A := _) (s := { s with heap := sortingHeap s.heap a vs }) er' nv nn ?_) (by rw [e.length]; exact hL) ⟨.none, rfl, ?_⟩) (args_list_sort _)
  · exact hu
  · refine h _ (by rw [PySem.W.sortVals_length false rfl]; exact e.length) (PySem.W.sortVals_each (κ := pairKind vs (bs.map key)) (fun b => keyToks (keyI (key b))) e (each_zip e.length fun p hp => ?_))
    refine pairKind_at nv ?_
    rw [List.zip_map_right, List.mem_map]
    exact ⟨p, hp, rfl⟩
end
end PL
set_option Elab.async false
set_option linter.all false
set_option maxRecDepth 100000
set_option maxHeartbeats 2000000
namespace PL
open PySem PySem.Spec PyProof.Rows L2
open LamX (ExtN Tabs TabS)
def itemI (p : List Int × PyData) : PyData := .tuple [.tuple (p.1.map .int), p.2]
theorem plain_ints : ∀ ns : List Int, PyData.plain (.tuple (ns.map .int)) = true := fun ns => by
  have : ∀ ns : List Int, PyData.plainAll (ns.map .int) = true := fun ns => by
    induction ns with
    | nil => rfl
    | cons n r ih => simp only [List.map_cons, PyData.plainAll, ih]; rfl
  simpa [PyData.plain] using this ns
theorem depth_ints : ∀ ns : List Int, PyData.depthAll (ns.map .int) = 0 := fun ns => by
  induction ns with
  | nil => rfl
  | cons n r ih => simp only [List.map_cons, PyData.depthAll, PyData.depth, ih]; decide
section
variable {T : Tb} {X : Cx} {W : WX} {pos p p2 pos' pos2 apos cpos : Pos} {e a b c : Expr} {K : PySem.W.Frag} {G : Gh} {ρ ρ2 : En} {σ σ2 : L2.St} {H H' : Hp}
def rItemsR : V → Hp → VK → Prop := fun x H Q => ∃ (d : Addr) (ts : List TEn), x = .ref d ∧ H d = some (RT d ts) ∧ ∀ p, H p = none → Q (.ref p) (upd H p (L2.DX.itemsO p d))
theorem pe_itemsR {te : TE} (he : PE X e te) (hbase : attributeBase e "items" X.env (eval e X.env) = eval e X.env := by rfl) (hline : (apos.endLine == cpos.line) = true := by rfl) :
    PE X (.Call (.Attribute e "items" apos) [] [] cpos) (fun σ H Q => te σ H fun x H1 => rItemsR x H1 Q) := by
  refine ⟨fun pins s σ H Q I hq => ?_⟩
  refine wpAny_Call_method (T := "dict") (id := "dict.items") hbase rfl hline F.plainAttrs_dict F.slot_dict_items F.type_dict_items (thn (he.run pins s σ H _ I hq) fun u s1 ⟨x, H1, I1, rx, d, ts, ex, hd, q⟩ => ?_)
  subst ex
  obtain rfl : u = Value.ref d := rx
  obtain ⟨⟨hz, hs0, ys, kv, o, es, ep, ho, hx, hdat, _⟩, _⟩ := (show ObjOk X.prog X.w H1 s1.heap d (RT d ts) from I1.hok d _ hd)
  have raw : DT.Raw s1.heap d es ep := ⟨o, ho, hx, hdat⟩
  refine ⟨raw.typeIs, fun a ea => by cases ea; exact ⟨o, ho, hx.2.1⟩, ?_⟩
  show wpAny _ _ (callWith cpos (.builtin "dict.items") [.ref d] [] []) _ X.xe s1
  refine method_meetsIn F.slot_dict_items F.entry_dict_items rfl (PySem.evalArgs_none ⟨rfl, raw.typeIs, F.args_dict_items_1 _, _, DT.meetsItems (es := es) (ep := ep) hs0, raw, ?_⟩)
  have hf : H1 s1.heap.objs.size = none := I1.hok.fresh (Nat.le_refl _)
  exact ⟨.ref s1.heap.objs.size, upd H1 s1.heap.objs.size (L2.DX.itemsO s1.heap.objs.size d), I1.laid (t' := s1.toks) (fun b u e => Heap.get?_push_of_some _ e) (Nat.le_refl _) (L2.DX.itemsO_ok (Heap.get?_push_size _ rfl)), rfl, q _ hf⟩
def rSr (T : Tb) (X : Cx) : List V → Hp → VK → Prop := fun xs H Q => ∃ (p d : Addr) (kvs : List TEn) (ps : List (List Int × PyData)) (G : Gh) (ρ : En) (σ : L2.St), xs = [.ref p] ∧ Rep T X.K G ρ σ H ∧ H p = some (L2.DX.itemsO p d) ∧ H d = some (RT d kvs) ∧ kvs.map (·.1) = ps.map (·.1) ∧ (∀ p ∈ kvs, hide G.O H p.2.1 = some (.tup (p.1.map V.int))) ∧ DaAll X.K (hide G.O H) (kvs.map (·.2.2)) (ps.map (·.2)) ∧
  (∀ p ∈ ps, Pl p.2) ∧ (ps.map (·.1)).Nodup ∧
  ∀ l vs H', Rep T X.K ⟨G.Hb, l :: G.O, G.fl⟩ ρ σ H' → l ∉ G.O → Apt ρ σ l → H' l = some (.lst vs) → DaAll X.K (hide (l :: G.O) H') vs ((ps.mergeSort (PySem.W.dataLe false fun p => keyI p.1)).map itemI) → Q (.ref l) H'
theorem cr_sr {k : Nat} (hc : X.calm = true) (hr : Room k X.A) : CallR X (.builtin "sorted") (rSr T X) := by
  intro pins s σ0 H xs us Q I rx q
  obtain ⟨p, d, kvs, ps, G, ρ, σ, rfl, r, hp, hd, hk, hky, hda, hlf, nn, q⟩ := q
  have hu := hr.un
  obtain rfl := Vals.ref1 rx
  have view : s.heap.IsItemsView p d := (show ObjOk X.prog X.w H s.heap p (L2.DX.itemsO p d) from I.hok p _ hp).1
  obtain ⟨⟨hz, hs0, ys, kv, o, es, ep, ho, hx, hdat, hes, _⟩, _⟩ := (show ObjOk X.prog X.w H s.heap d (RT d kvs) from I.hok d _ hd)
  have hes := hes X.prog X.w
  have les : es.size = ys.length := by rw [← Array.length_toList, hes, List.length_map, List.length_map]
  have lk : kvs.length = ys.length := Paired.length kv
  have lp : kvs.length = ps.length := length_of_map hk
  have hh : X.A.handled = none := I.ok.hd hc
  refine DT.sortedI (es := es) (ep := ep) hh view ⟨o, ho, hx, hdat⟩ (by omega) fun h' tk as hkp hlt0 hl hG => ?_
  have hlt : s.heap.objs.size ≤ h'.objs.size := Nat.le_of_lt hlt0
  have nd : as.Nodup := List.Pairwise.imp (fun h => Nat.ne_of_lt h) hG.rise
  have pr : ∀ (j : Nat) (b : Addr), as[j]? = some b → ∃ (kw : TEn) (pd : List Int × PyData) (x : Value), kvs[j]? = some kw ∧ ps[j]? = some pd ∧ kw.1 = pd.1 ∧ Da X.K (hide G.O H) kw.2.2 pd.2 ∧ Pl pd.2 ∧ hide G.O H kw.2.1 = some (.tup (kw.1.map V.int)) ∧ RelV kw.2.2 x ∧ h'.get? b = some { cls := .type "tuple", data := .seq #[.ref kw.2.1, x] } := by
    intro j b hj
    obtain ⟨en, he, e3⟩ := hG.pairs j b hj
    have hjl : j < kvs.length := by rw [lk, ← les]; exact (Array.getElem?_eq_some_iff.mp he).1
    obtain ⟨y, g1, g2, g3, g4⟩ := LiI.paired_get kv (List.getElem?_eq_getElem hjl)
    have ee : en = entryOfKey (tupleKind (mixKind X.prog X.w)) (ik y.1, y.2) := by
      have h1 : es.toList[j]? = some en := by rw [Array.getElem?_toList]; exact he
      rw [hes, List.getElem?_map, List.getElem?_map, g1] at h1
      exact (Option.some.inj h1).symm
    have hjp : j < ps.length := by rw [← lp]; exact hjl
    have ek : (kvs[j]).1 = (ps[j]).1 := by
      have := congrArg (fun l => l[j]?) hk
      simp only [List.getElem?_map, List.getElem?_eq_getElem hjl, List.getElem?_eq_getElem hjp] at this
      exact Option.some.inj this
    obtain ⟨dd, h1, h2⟩ := hda.get (i := j) (v := (kvs[j]).2.2) (by rw [List.getElem?_map, List.getElem?_eq_getElem hjl]; rfl)
    rw [List.getElem?_map, List.getElem?_eq_getElem hjp] at h1
    cases h1
    refine ⟨kvs[j], ps[j], y.2.2, List.getElem?_eq_getElem hjl, List.getElem?_eq_getElem hjp, ek, h2, hlf _ (List.getElem_mem hjp), hky _ (List.getElem_mem hjl), g4, ?_⟩
    rw [e3, ee, g3]
    rfl
  have lak : as.length = (ps.map itemI).length := by rw [List.length_map]; omega
  have hL : (as.map Value.ref).length ≤ sizeLine := by rw [List.length_map]; omega
  have hoL : (h'.push (seqObj "list" (as.map Value.ref).toArray 0)).get? h'.objs.size = some (seqObj "list" (as.map Value.ref).toArray 0) := Heap.get?_push_size _ rfl
  have kF : ∀ b o out, b ≠ h'.objs.size → h'.get? b = some o → (sortedHeap (h'.push (seqObj "list" (as.map Value.ref).toArray 0)) h'.objs.size (as.map Value.ref) out).get? b = some o := fun b o out hb e => by
    rw [sortedHeap_old hb (by rw [size_push']; exact Nat.lt_succ_of_lt (Heap.lt_size e))]
    exact Heap.get?_push_of_some _ e
  have lak2 : as.length = ps.length := by omega
  refine list_sort_pairs (key := fun p => p.1) (bs := ps) (R := fun u pd => ∃ (j : Nat) (b : Addr), u = .ref b ∧ as[j]? = some b ∧ ps[j]? = some pd) hoL
    (each_of as _ lak2 fun j b dd h1 h2 => ⟨j, b, rfl, h1, h2⟩) (each_of as _ lak2 fun j b dd h1 h2 => ?_) (nd.map _ fun a b ne e => ne (by injection e)) nn (by rw [← lak2]; rw [List.length_map] at hL; exact hL) (by show X.A.units + 1 + 2 < _; omega) fun out hlo eo => ?_
  · obtain ⟨kw, pd, x, e1, e2, e3, e4, e5, e6, e8, e9⟩ := pr j b h1
    rw [e2] at h2
    cases h2
    have kd : Da X.K H (.ref kw.2.1) (.tuple (kw.1.map .int)) := .tup (hide_some e6).2 (daAll_ints kw.1)
    obtain ⟨as1, r1⟩ := Dp.reads I _ _ (.ref kw.2.1) (kd.dp (plain_ints kw.1)) rfl
    have far : ∀ {u : Value} {d : PyData} {as : List Addr}, Reads s.heap u d as → h'.objs.size ∉ as := fun hr z => by
      obtain ⟨o', e'⟩ := reads_there hr _ z
      exact absurd (Heap.lt_size (hkp _ _ e')) (Nat.lt_irrefl _)
    have up : ∀ {u : Value} {d : PyData} {as0 : List Addr}, Reads s.heap u d as0 → Reads (h'.push (seqObj "list" (as.map Value.ref).toArray 0)) u d as0 := fun hr => PyProof.Rows.Reads.keeps (fun b o e => Heap.get?_push_of_some _ (hkp b o e)) hr
    refine ⟨b, _, .ref kw.2.1, x, 0, as1, rfl, Heap.get?_push_of_some _ e9, rfl, rfl, ?_, far r1⟩
    rw [← e3]
    exact up r1
  · replace eo := PySem.W.each_map (R := fun u d => ∃ (j : Nat) (b : Addr) (pd : List Int × PyData), u = .ref b ∧ as[j]? = some b ∧ ps[j]? = some pd ∧ d = itemI pd) itemI (eo.mono fun u pd ⟨j, b, h1, h2, h3⟩ => ⟨j, b, pd, h1, h2, h3, rfl⟩)
    replace hlo : out.length = (ps.map itemI).length := by rw [List.length_map]; exact hlo
    obtain ⟨ce, hce⟩ := sortedHeap_at (vs := as.map Value.ref) (out := out.toArray) hoL
    have ne0 : ∀ b o, h'.get? b = some o → b ≠ h'.objs.size := fun b o e => Nat.ne_of_lt (Heap.lt_size e)
    have kS : ∀ b o, s.heap.get? b = some o → (sortedHeap (h'.push (seqObj "list" (as.map Value.ref).toArray 0)) h'.objs.size (as.map Value.ref) out.toArray).get? b = some o := fun b o e => kF b o _ (ne0 _ _ (hkp b o e)) (hkp b o e)
    generalize hF : sortedHeap (h'.push (seqObj "list" (as.map Value.ref).toArray 0)) h'.objs.size (as.map Value.ref) out.toArray = hf at hce kS
    have kF' : ∀ b o, h'.get? b = some o → hf.get? b = some o := fun b o e => by rw [← hF]; exact kF b o _ (ne0 _ _ e) e
    have I1 : Inv X pins σ0 H { s with heap := hf, toks := tk } := I.kept (t' := tk) kS
    have hn0 : H h'.objs.size = none := I.hok.fresh hlt
    have outB : ∀ {us : List Value} {ds : List PyData}, PySem.W.EachIs (fun u d => ∃ (j : Nat) (b : Addr) (pd : List Int × PyData), u = .ref b ∧ as[j]? = some b ∧ ps[j]? = some pd ∧ d = itemI pd) us ds → ∃ bs : List Addr, us = bs.map Value.ref ∧ PySem.W.EachIs (fun b d => ∃ (j : Nat) (pd : List Int × PyData), as[j]? = some b ∧ ps[j]? = some pd ∧ d = itemI pd) bs ds := fun {us ds} h => by
      induction h with
      | nil => exact ⟨[], rfl, .nil⟩
      | cons h t ih =>
        obtain ⟨j, b, pd, rfl, h1, h2, rfl⟩ := h
        obtain ⟨bs, w1, w2⟩ := ih
        exact ⟨b :: bs, by rw [w1]; rfl, .cons ⟨j, pd, h1, h2, rfl⟩ w2⟩
    obtain ⟨bs, eout, eb⟩ := outB eo
    have hlen : (bs.map V.ref).length ≤ sizeLine := by
      have := congrArg List.length eout
      rw [List.length_map] at this
      rw [List.length_map, ← this, hlo, ← lak]; rw [List.length_map] at hL; exact hL
    have I2 : Inv X pins σ0 (upd H h'.objs.size (.lst (bs.map V.ref))) { s with heap := hf, toks := tk } :=
      I1.take (h' := hf) (t' := tk) (fun b ob _ e => e) (I.fpOk hlt hn0) ⟨hlen, out, ce, by rw [eout]; exact LiI.vals_refs bs, hce⟩
    -- the tuples are tracked
    obtain ⟨H2, I3, g, qt⟩ := L2.DX.takeT (h' := hf) (tk := tk) (P := fun b vs => ∃ (j : Nat) (kw : TEn), as[j]? = some b ∧ kvs[j]? = some kw ∧ vs = [.ref kw.2.1, kw.2.2]) I as _ I2 nd fun b hb => by
      obtain ⟨j, hj⟩ := List.mem_iff_getElem?.mp hb
      obtain ⟨kw, pd, x, e1, e2, e3, e4, e5, e6, e8, e9⟩ := pr j b hj
      have hbl : s.heap.objs.size ≤ b := Nat.le_of_lt (hG.above b hb)
      exact ⟨hbl, by rw [upd_ne (ne0 _ _ e9)]; exact I.hok.fresh hbl, [.ref kw.2.1, kw.2.2], ⟨j, kw, hj, e1, rfl⟩, fun H3 => ⟨(by rw [sizeLine_eq]; show 2 ≤ 16777216; omega), [.ref kw.2.1, x], .cons rfl (.cons e8 .nil), ⟨_, kF' _ _ e9, rfl, 0, rfl⟩⟩⟩
    have hS : H2 h'.objs.size = some (.lst (bs.map V.ref)) := g _ _ upd_same
    let H3 : Hp := fun b => if b = h'.objs.size then none else H2 b
    have n3 : H3 h'.objs.size = none := if_pos rfl
    have o3 : ∀ b, b ≠ h'.objs.size → H3 b = H2 b := fun b hb => if_neg hb
    have e3 : H2 = upd H3 h'.objs.size (.lst (bs.map V.ref)) := by
      funext b
      by_cases hb : b = h'.objs.size
      · subst hb; rw [upd_same]; exact hS
      · rw [upd_ne hb, o3 b hb]
    have g3 : ∀ b o, H b = some o → H3 b = some o := fun b o e => by
      have hb : b ≠ h'.objs.size := fun z => by rw [z, hn0] at e; cases e
      rw [o3 b hb]
      exact g b o (by rw [upd_ne hb]; exact e)
    have r2 : Rep T X.K G ρ σ H3 := r.alloc g3
    have e2 : ExtN (hide G.O H) (hide G.O H3) := ext_hide fun b o _ h _ => g3 b o h
    have atB : ∀ (j : Nat) (b : Addr) (pd : List Int × PyData), as[j]? = some b → ps[j]? = some pd → Da X.K (hide G.O H3) (.ref b) (itemI pd) := fun j b pd h1 h2 => by
      obtain ⟨kw, pd', x, e1, e2', e3, e4, e5, e6, e8, e9⟩ := pr j b h1
      rw [h2] at e2'
      cases e2'
      obtain ⟨vs', ⟨j', kw', h3, h4, rfl⟩, h5⟩ := qt b (List.mem_of_getElem? h1)
      have ej : j = j' := (List.getElem?_inj (List.getElem?_eq_some_iff.mp h1).1 nd).mp (h1.trans h3.symm)
      subst ej
      rw [e1] at h4
      cases h4
      have hb : b ∉ G.O := fun z => by
        obtain ⟨o, ho, _⟩ := r.dom b z
        have := (I.hok.fresh (Nat.le_of_lt (hG.above b (List.mem_of_getElem? h1))) : H b = none)
        rw [this] at ho
        cases ho
      refine .tup (by rw [hide_out hb, o3 b (ne0 _ _ e9)]; exact h5) (.cons ?_ (.cons (e4.ext e2) .nil))
      rw [← e3]
      exact .tup (e2 _ _ e6 fun ps z => by cases z) (daAll_ints kw.1)
    have outV : ∀ {bs : List Addr} {ds : List PyData}, PySem.W.EachIs (fun b d => ∃ (j : Nat) (pd : List Int × PyData), as[j]? = some b ∧ ps[j]? = some pd ∧ d = itemI pd) bs ds → DaAll X.K (hide G.O H3) (bs.map V.ref) ds := fun {bs ds} h => by
      induction h with
      | nil => exact .nil
      | cons h t ih =>
        obtain ⟨j, pd, h1, h2, rfl⟩ := h
        exact .cons (atB j _ pd h1 h2) ih
    obtain ⟨q1, q2, q3, q4, q5⟩ := r2.newL n3 (outV eb)
    rw [← e3] at q1 q4 q5
    exact ⟨.ref _, H2, I3, rfl, q _ _ _ q1 q2 q3 q4 q5⟩
end
end PL
set_option Elab.async false
set_option linter.all false
set_option maxRecDepth 100000
set_option maxHeartbeats 2000000
namespace PL
open PySem PySem.Spec PyProof.Rows L2 LamX
section
variable {X : Cx} {pins : List (Addr × Obj)} {σ : L2.St} {H : Hp} {s : Shared} {T : Tb}
/-- the function of a lambda of X's frame stands at f, its code object at c' -/
def FnAt (X : Cx) (H : Hp) (f c' : Addr) (params : Arguments) (body : Expr) (scope : Scope) : Prop :=
  (∃ pm ctv, H f = some (.frz (PySem.W.kla_obj "<lambda>" (X.env.qual ++ "<lambda>") params body scope (cloFrom X.env.cells scope.names []) pm c' ctv) (.own f))) ∧ H c' = some (CodeO c' (X.env.qual ++ "<lambda>"))
theorem FnAt.ext {P : Addr} {H' : Hp} {f c' : Addr} {params : Arguments} {body : Expr} {scope : Scope} {ps : Array Value} (h : FnAt X H f c' params body scope) (hP : H P = some (.tbl ps)) (e : ExtB P H H') : FnAt X H' f c' params body scope := by
  obtain ⟨⟨pm, ctv, h1⟩, h2⟩ := h
  refine ⟨⟨pm, ctv, e _ _ (fun z => ?_) h1⟩, e _ _ (fun z => ?_) h2⟩
  · rw [z, hP] at h1; cases h1
  · rw [z, hP] at h2; exact codeO_ne ps (Option.some.inj h2).symm
theorem lam_keep {c P : Addr} {params : Arguments} {body : Expr} {scope : Scope} {pos : Pos} {E : Value → Shared → Prop} {Q : Value → Shared → Prop} (I : Inv X pins σ H s) (B : TabB X.base X.mg c P) (hcode : X.env.code = .ref c) (hm : (P, X.env.qual ++ "<lambda>") ∈ T.tl)
    (hu : ∀ p ∈ T.tl, p.1 = P → p.2 = X.env.qual ++ "<lambda>") (hg : P ∉ T.tg ++ T.tn) (hT : TOk T H) (hdef : defaultsOf params X.env = ([], [])) (hfree : ∀ y ∈ scope.names, y.2 = .free → ∃ c, X.env.cells.lookup y.1 = some c)
    (h : ∀ (f c' : Addr) (H1 : Hp) (s' : Shared), Inv X pins σ H1 s' → ExtB P H H1 → TOk T H1 → FnAt X H1 f c' params body scope → H f = none → Q (.ref f) s') : wpAny (model X.prog X.w) X.A (eval (.Lambda params body scope pos) X.env) Q E s := by
  obtain ⟨ps, hP, ht, ha⟩ := hT.l _ hm
  have atP : s.heap.get? P = some { cls := .none, data := .fields ps } := I.hok P _ hP
  refine PySem.W.kla_eval hdef ?_
  cases hc : codeAmong pos ps.toList with
  | some cv =>
    obtain ⟨c', rfl, hco⟩ := ha pos cv hc
    refine PySem.W.kla_makeFunctionHit (mg := X.mg) (c := c) (P := P) (ps := ps) (closure_ok hfree) I.ok.glob (I.mod.glob.keeps I.bk) hcode (B.code.keeps I.bk) atP ht hc (B.bm.keeps I.bk) fun ctv h' tk hx hsz => ?_
    have I0 : Inv X pins σ H { s with heap := h', toks := tk } := I.kept hx
    have n0 : H h'.objs.size = none := I0.hok.fresh (Nat.le_refl _)
    have I1 := I0.laid (a := h'.objs.size) (o := .frz (PySem.W.kla_obj "<lambda>" (X.env.qual ++ "<lambda>") params body scope (cloFrom X.env.cells scope.names []) ((X.mg "__name__").getD .none) c' ctv) (.own h'.objs.size)) (h' := h'.push (PySem.W.kla_obj "<lambda>" (X.env.qual ++ "<lambda>") params body scope (cloFrom X.env.cells scope.names []) ((X.mg "__name__").getD .none) c' ctv)) (t' := tk)
      (fun b u q => Heap.get?_push_of_some _ q) (Nat.le_refl _) ⟨Heap.get?_push_size _ rfl, _, Heap.get?_push_size _ rfl⟩
    have kp : ∀ b o, H b = some o → upd H h'.objs.size (.frz (PySem.W.kla_obj "<lambda>" (X.env.qual ++ "<lambda>") params body scope (cloFrom X.env.cells scope.names []) ((X.mg "__name__").getD .none) c' ctv) (.own h'.objs.size)) b = some o := fun b o e => by rw [upd_ne (ne_of_none e n0)]; exact e
    exact h _ c' _ _ I1 (fun b o _ e => kp b o e) (hT.keep kp) ⟨⟨_, _, upd_same⟩, kp _ _ hco⟩ n0
  | none =>
    refine PySem.W.kla_makeFunction (mg := X.mg) (c := c) (P := P) (ps := ps) (closure_ok hfree) I.ok.glob (I.mod.glob.keeps I.bk) hcode (B.code.keeps I.bk) atP ht hc B.gP (B.bm.keeps I.bk) fun c' ctv h' tk hx hge hlt hrec htb => ?_
    obtain ⟨c2, oc, vs, t, e2, hoc, hd, hv⟩ := hrec
    cases e2
    have big : s.heap.objs.size ≤ h'.objs.size := Nat.le_trans hge (Nat.le_of_lt hlt)
    have new : H c' = none := I.hok.fresh hge
    have I0 := inv_table (t' := tk) (q := X.env.qual ++ "<lambda>") (more := #[rawInt pos.line, rawInt pos.col, .ref c']) (h' := h') I hP (fun b o hb e => hx b o hb e) htb hge ⟨oc, vs, t, hoc, hd, hv⟩
    have keep : ExtB P H (upd (upd H P (.tbl (ps ++ #[rawInt pos.line, rawInt pos.col, .ref c']))) c' (CodeO c' (X.env.qual ++ "<lambda>"))) := fun b o hb e => by rw [upd_ne (ne_of_none e new), upd_ne hb]; exact e
    have codeK : ∀ {c0 q}, H c0 = some (CodeO c0 q) → c0 ≠ P := fun {c0 q} e z => by rw [z, hP] at e; exact codeO_ne ps (Option.some.inj e).symm
    have el : (ps ++ #[rawInt pos.line, rawInt pos.col, .ref c']).toList = ps.toList ++ [rawInt pos.line, rawInt pos.col, .ref c'] := by simp
    have nP : P ≠ c' := ne_of_none hP new
    have hap : P ∈ T.ap := List.mem_append_left _ (List.mem_map.mpr ⟨_, hm, rfl⟩)
    have keepC : ∀ {c P'}, CdAt H c P' → CdAt _ c P' := fun {c0 P'} ⟨oc, h1, h2⟩ => ⟨oc, keep c0 _ (fun z => by rw [z, hP] at h1; cases h1) h1, h2⟩
    have t0 : TOk T (upd (upd H P (.tbl (ps ++ #[rawInt pos.line, rawInt pos.col, .ref c']))) c' (CodeO c' (X.env.qual ++ "<lambda>"))) := by
      refine ⟨fun P' hP' => ?_, fun p hp => ?_, fun P' hP' => ?_, fun q hq => keepC (hT.c q hq), fun q hq => ⟨keep _ _ (fun z => by
        obtain ⟨h1, h2⟩ := hT.k q hq
        rw [z, hP] at h1
        rcases h2 with ⟨oc, h2⟩ | ⟨s, h2⟩
        · rw [h2] at h1; cases h1
        · rw [h2] at h1; exact codeO_ne ps (Option.some.inj h1).symm) (hT.k q hq).1, (hT.k q hq).2⟩⟩
      · obtain ⟨ps', h1, h2⟩ := hT.g P' hP'
        exact ⟨ps', keep _ _ (fun z => hg (List.mem_append_left _ (by rw [← z]; exact hP'))) h1, h2⟩
      · by_cases hb : p.1 = P
        · rw [hu p hp hb, hb]
          refine ⟨_, by rw [upd_ne nP, upd_same], by rw [el]; exact TriplesOk_snoc _ _ _ _ ht, fun p' cv hcv => ?_⟩
          rw [el] at hcv
          exact (among_app _ ht hcv).elim (fun z => by obtain ⟨c0, e1, e2⟩ := ha p' cv z; exact ⟨c0, e1, keep _ _ (codeK e2) e2⟩) fun z => ⟨c', z, upd_same⟩
        · obtain ⟨ps', a1, a2, a3⟩ := hT.l p hp
          exact ⟨ps', keep _ _ hb a1, a2, fun p' cv hcv => by obtain ⟨c0, e1, e2⟩ := a3 p' cv hcv; exact ⟨c0, e1, keep _ _ (codeK e2) e2⟩⟩
      · obtain ⟨ps', a1, a2, a3⟩ := hT.n P' hP'
        refine ⟨ps', keep _ _ (fun z => hg (List.mem_append_right _ (by rw [← z]; exact hP'))) a1, a2, fun p' cv hcv => ?_⟩
        obtain ⟨c0, P0, e1, e2, ⟨ps0, e3, e4⟩, e5⟩ := a3 p' cv hcv
        exact ⟨c0, P0, e1, keepC e2, ⟨ps0, keep _ _ (fun z => e5 (by rw [z]; exact hap)) e3, e4⟩, e5⟩
    have n0 : upd (upd H P (.tbl (ps ++ #[rawInt pos.line, rawInt pos.col, .ref c']))) c' (CodeO c' (X.env.qual ++ "<lambda>")) h'.objs.size = none := I0.hok.fresh (Nat.le_refl _)
    have I1 := I0.laid (a := h'.objs.size) (o := .frz (PySem.W.kla_obj "<lambda>" (X.env.qual ++ "<lambda>") params body scope (cloFrom X.env.cells scope.names []) ((X.mg "__name__").getD .none) c' ctv) (.own h'.objs.size)) (h' := h'.push (PySem.W.kla_obj "<lambda>" (X.env.qual ++ "<lambda>") params body scope (cloFrom X.env.cells scope.names []) ((X.mg "__name__").getD .none) c' ctv)) (t' := tk)
      (fun b u q => Heap.get?_push_of_some _ q) (Nat.le_refl _) ⟨Heap.get?_push_size _ rfl, _, Heap.get?_push_size _ rfl⟩
    have kp : ∀ b o, upd (upd H P (.tbl (ps ++ #[rawInt pos.line, rawInt pos.col, .ref c']))) c' (CodeO c' (X.env.qual ++ "<lambda>")) b = some o → upd (upd (upd H P (.tbl (ps ++ #[rawInt pos.line, rawInt pos.col, .ref c']))) c' (CodeO c' (X.env.qual ++ "<lambda>"))) h'.objs.size (.frz (PySem.W.kla_obj "<lambda>" (X.env.qual ++ "<lambda>") params body scope (cloFrom X.env.cells scope.names []) ((X.mg "__name__").getD .none) c' ctv) (.own h'.objs.size)) b = some o := fun b o e => by rw [upd_ne (ne_of_none e n0)]; exact e
    exact h _ c' _ _ I1 (fun b o hb e => kp _ _ (keep b o hb e)) (t0.keep kp) ⟨⟨_, _, upd_same⟩, kp _ _ upd_same⟩ (I.hok.fresh big)
end
/-- a row of lambdas -/
structure LamD where
  params : Arguments
  body : Expr
  scope : Scope
def LamOk (X : Cx) (l : LamD) : Prop := LamS X.env.scope l.scope ∧ defaultsOf l.params X.env = ([], []) ∧ ∀ (q : Str) (cl : List (Str × Addr)) (pm cv ctv : Value), bindArgs (PySem.W.kla_fn "<lambda>" q l.params l.body l.scope cl pm cv ctv) ⟨[], []⟩ = pure []
inductive FnsAt (X : Cx) (H : Hp) : List Addr → List LamD → Prop
  | nil : FnsAt X H [] []
  | cons {f c' : Addr} {l : LamD} {fs : List Addr} {ls : List LamD} : FnAt X H f c' l.params l.body l.scope → FnsAt X H fs ls → FnsAt X H (f :: fs) (l :: ls)
theorem FnsAt.ext {X : Cx} {P : Addr} {H H' : Hp} {ps : Array Value} (hP : H P = some (.tbl ps)) (e : ExtB P H H') : ∀ {fs : List Addr} {ls : List LamD}, FnsAt X H fs ls → FnsAt X H' fs ls
  | _, _, .nil => .nil
  | _, _, .cons h r => .cons (h.ext hP e) (r.ext hP e)
end PL
set_option Elab.async false
set_option linter.all false
set_option maxRecDepth 100000
set_option maxHeartbeats 2000000
namespace PL
open PySem PySem.Spec PyProof.Rows L2 NdefX
structure SupI (P : Program) (K : PySem.W.Frag) (C fI : Addr) (qual : Str) (params : Arguments) (body : List Stmt) (scope : Scope) (fd : FuncData) (fld : Str) : Prop where
  ex : ∃ (oc : Value) (od : Option Addr) (kV doc pm ct : Value) (an : Option Addr) (osl : Array (Option Value)) (cda cc : Addr),
    fd = PySem.W.fnX "__init__" qual params body scope [("__class__", cc)] .none kV doc pm an (.ref cda) ct ∧ K.lookup fI = some ⟨oc, od, .func fd, osl⟩ ∧ PySem.W.codeIn K (.ref cda) qual = true ∧
    (∃ (ccl : Value) (cdd : Option Addr) (vs : Array Value) (ccs : Array (Option Value)) (file : Str) (tf : Tok), K.lookup cda = some ⟨ccl, cdd, .fields vs, ccs⟩ ∧ vs[2]? = some (.str file tf) ∧ ((P.main.file : Str) == file) = true) ∧
    (∃ (cl : Value) (cld : Option Addr) (csl : Array (Option Value)), K.lookup cc = some ⟨cl, cld, .cell (some (.ref C)), csl⟩)
  T : OexC K C
  sup : PySem.W.nsIn K mainGlobals "super" = some none
  tp : PySem.W.nsIn K PySem.cStatics "thirdparty.any" = some none
  si : PySem.W.ks_superIn K C C "__init__" = some (some (.builtin "ValueError.__init__"))
  sv : PySem.W.subIn K (.ref C) (.type "ValueError") = some true
  mc : PySem.W.mroIn K C (.ref C) = some true
  no : PySem.W.findIn K (.ref C) fld = some none
end PL
set_option Elab.async false
set_option linter.all false
set_option maxRecDepth 100000
set_option maxHeartbeats 2000000
namespace PySem.W
open PySem PySem.Spec PySem.Calls PyProof.Rows
end PySem.W
namespace PL
open PySem PySem.Spec PyProof.Rows L2 NdefX
open LamX (ExtN Tabs TabS)
section
variable {T : Tb} {X : Cx} {W : WX} {pos p pos' p1 p2 : Pos} {e a b c : Expr} {es : List Expr} {K : PySem.W.Frag} {G G2 : Gh} {ρ ρ2 : En} {σ σ2 : L2.St} {H H' : Hp} {D : Ends}
theorem SupI.binds {P : Program} {C fI : Addr} {qual fld : Str} {params : Arguments} {body : List Stmt} {scope : Scope} {fd : FuncData} {ps : List Str} (S : SupI P K C fI qual params body scope fd fld)
    (h : ∀ (cl : List (Str × Addr)) (kV doc pm : Value) (an : Option Addr) (cv ct : Value) (us : List Value), us.length = ps.length → bindArgs (PySem.W.fnX "__init__" qual params body scope cl .none kV doc pm an cv ct) ⟨us, []⟩ = pure (ps.zip us)) : Binds K fd ps [] := by
  obtain ⟨oc, od, kV, doc, pm, ct, an, osl, cda, cc, rfl, _⟩ := S.ex
  exact Binds.all fun us hl => h _ _ _ _ _ _ _ us hl
end
end PL
set_option Elab.async false
set_option linter.all false
set_option maxRecDepth 100000
set_option maxHeartbeats 2000000
namespace PL
open PySem PySem.Spec PyProof.Rows L2 LamX
end PL
set_option Elab.async false
set_option linter.all false
set_option maxRecDepth 100000
set_option maxHeartbeats 2000000
namespace PL
open PySem PySem.Spec PyProof.Rows L2 LamX
end PL
set_option Elab.async false
set_option linter.all false
set_option maxRecDepth 100000
set_option maxHeartbeats 2000000
namespace PL
open PySem PySem.Spec PyProof.Rows L2 LamX
def mk (f : Addr) : PyData := .dict [(.bool true, .int f)]
def FO (X : Cx) (l : LamD) (f c' : Addr) (pm ctv : Value) : HO := .frz (PySem.W.kla_obj "<lambda>" (X.env.qual ++ "<lambda>") l.params l.body l.scope (cloFrom X.env.cells l.scope.names []) pm c' ctv) (.own f)
/-- what is known of the functions: they and their code objects stand in kn -/
inductive FnsK (X : Cx) (kn : List (Addr × HO)) : List Addr → List LamD → Prop
  | nil : FnsK X kn [] []
  | cons {f c' : Addr} {pm ctv : Value} {l : LamD} {fs : List Addr} {ls : List LamD} : (f, FO X l f c' pm ctv) ∈ kn → (c', CodeO c' (X.env.qual ++ "<lambda>")) ∈ kn → FnsK X kn fs ls → FnsK X kn (f :: fs) (l :: ls)
theorem FnsK.more {X : Cx} {kn kn' : List (Addr × HO)} (h : ∀ q ∈ kn, q ∈ kn') : ∀ {fs : List Addr} {ls : List LamD}, FnsK X kn fs ls → FnsK X kn' fs ls
  | _, _, .nil => .nil
  | _, _, .cons a b r => .cons (h _ a) (h _ b) (r.more h)
theorem FnsAt.length {X : Cx} {H : Hp} : ∀ {fs : List Addr} {ls : List LamD}, FnsAt X H fs ls → fs.length = ls.length
  | _, _, .nil => rfl
  | _, _, .cons _ r => congrArg (· + 1) r.length
end PL
set_option Elab.async false
set_option linter.all false
set_option maxRecDepth 100000
set_option maxHeartbeats 2000000
namespace PL
open PySem PySem.Spec PyProof.Rows L2 LamX
section
variable {T : Tb} {X : Cx} {W : WX} {pos p : Pos} {e : Expr} {K : PySem.W.Frag} {G : Gh} {ρ : En} {σ : L2.St} {H H' : Hp}
theorem mk_inv {v : V} {f : Addr} (h : Da K H v (mk f)) : v = .ref f := by
  unfold mk at h
  generalize hd : PyData.dict [(.bool true, .int f)] = d at h
  have kd : ∀ k : Key, keyD k ≠ .bool true := fun k e => by cases k <;> cases e
  cases h with
  | dk h1 h2 =>
    rename_i a kvs ds
    injection hd with hd
    cases kvs with
    | nil => cases hd
    | cons q r => cases ds with
      | nil => cases hd
      | cons y t => exact absurd (Prod.mk.inj (List.cons.inj hd).1).1.symm (kd _)
  | dt h1 h2 h3 =>
    rename_i a kvs ds
    injection hd with hd
    cases kvs with
    | nil => cases hd
    | cons q r => cases ds with
      | nil => cases hd
      | cons y t => exact absurd (Prod.mk.inj (List.cons.inj hd).1).1 (fun z => by cases z)
  | dte h1 => cases hd
  | ob h1 =>
    cases hd
    obtain ⟨n, h2, h3⟩ := h1
    rw [h3, show f = n from Int.ofNat.inj h2]
  | _ => cases hd
theorem FnsK.at {kn : List (Addr × HO)} : ∀ {fs : List Addr} {ls : List LamD} {j : Nat} {f : Addr}, FnsK X kn fs ls → fs[j]? = some f → ∃ l c' pm ctv, ls[j]? = some l ∧ (f, FO X l f c' pm ctv) ∈ kn ∧ (c', CodeO c' (X.env.qual ++ "<lambda>")) ∈ kn
  | _, _, _, _, .nil, e => by simp at e
  | _, _, 0, _, .cons a b _, e => by simp at e; subst e; exact ⟨_, _, _, _, rfl, a, b⟩
  | _, _, j + 1, _, .cons _ _ r, e => by
    obtain ⟨l, c', pm, ctv, h⟩ := FnsK.at (j := j) r (by simpa using e)
    exact ⟨l, c', pm, ctv, by simpa using h.1, h.2⟩
end
end PL
set_option Elab.async false
set_option linter.all false
set_option maxRecDepth 100000
set_option maxHeartbeats 2000000
namespace PL
open PySem PySem.Spec PyProof.Rows L2
open LamX (ExtN Tabs TabS)
structure FunM (K : PySem.W.Frag) (x y : Str) (st : Stmt) (f c : Addr) (fd : FuncData) : Prop where
  ex : ∃ (oc : Value) (od : Option Addr) (kV doc pm : Value) (an : Option Addr) (ct : Value) (osl : Array (Option Value)),
    fd = PySem.W.fnOf x y (defArgs st) (defBody st) (defScope st) .none kV doc pm an (.ref c) ct ∧ K.lookup f = some ⟨oc, od, .func fd, osl⟩ ∧ PySem.W.codeIn K (.ref c) y = true
  kp : PySem.W.keepIn K (.ref f) = true
section
variable {P : Program} {w : World} {K : PySem.W.Frag} {mg : Str → Option Value} {base : Heap} {x y : Str} {st : Stmt} {f c : Addr} {fd : FuncData} {N ps : List Str} {k : Nat} {sp : Sp} {T : Tb}
theorem FunM.okX (F : FunM K x y st f c fd) (S : FnScope N ps (defScope st)) (len : ∀ vs H Q E, sp vs H Q E → vs.length = ps.length)
    (hbody : ∀ (A : Around) (outer : List Env) (s : Shared) (H : Hp) (vs : List V) (Q : VK) (E : XK), Room k (A.deeper (envOfC y (defScope st) s.heap.objs.size f (.ref c))) → sp vs H Q E →
      ∃ t, PSs (cxOf (L2.CX P w) P w K mg base N y (defScope st) f (.ref c) A outer s H E) (defBody st) t ∧ t { nx := fun _ H' => Q .non H', rt := Q } (start N vs) H) : FnOk P w K mg base (L2.CX P w) (k + 1) f fd ps sp := by
  obtain ⟨oc, od, kV, doc, pm, an, ct, osl, rfl, lk, hcd⟩ := F.ex
  exact fn_of lk hcd S len fun A outer s H vs Q E hr hsp => hbody A outer s H vs Q E hr hsp
theorem FunM.binds (F : FunM K x y st f c fd)
    (h : ∀ (kV doc pm : Value) (an : Option Addr) (cdv ct : Value) (us : List Value), us.length = ps.length → bindArgs (PySem.W.fnOf x y (defArgs st) (defBody st) (defScope st) .none kV doc pm an cdv ct) ⟨us, []⟩ = pure (ps.zip us)) : Binds K fd ps [] := by
  obtain ⟨oc, od, kV, doc, pm, an, ct, osl, rfl, lk, hcd⟩ := F.ex
  exact .all (h kV doc pm an (.ref c) ct)
theorem fn_okDM {u : SW} (F : FunM K x y st f c fd) (S : FnScope N ps (defScope st))
    (hb : ∀ (A : Around) (outer : List Env) (s : Shared) (H : Hp) (E : XK), Room k (A.deeper (envOfC y (defScope st) s.heap.objs.size f (.ref c))) →
      DSs T (cxOf (L2.CX P w) P w K mg base N y (defScope st) f (.ref c) A outer s H E) (fun cls d _ H => E cls d H) (defBody st) u) : FnOk P w K mg base (L2.CX P w) (k + 1) f fd ps (spD T K ps.length (cOf N u)) := by
  refine F.okX S (fun vs H Q E h => ?_) (fun A outer s H vs Q E hr h => ⟨_, (hb A outer s H E hr).ps, ?_⟩)
  · obtain ⟨O, ρ, h1, h2, _⟩ := h
    have := h2.len
    rw [List.length_map] at this
    omega
  · obtain ⟨O, ρ, h1, r, no, q⟩ := h
    have hl : ρ.length = vs.length := by have := r.len; rw [List.length_map] at this; exact this
    refine ⟨⟨hide O H, O, flOf T.dc O H⟩, ρ ++ List.replicate (N.length - ρ.length) .un, ?_, fun q hq j t hj ht => ?_, ?_⟩
    · rw [start_eq hl]
      exact r.more _
    · exfalso
      by_cases z : j < ρ.length
      · rw [List.getElem?_append_left z] at hj
        rw [no t (List.mem_of_getElem? hj)] at ht
        cases ht
      · rw [List.getElem?_append_right (by omega), List.getElem?_replicate] at hj
        split at hj
        · cases hj; cases ht
        · cases hj
    · refine (hb A outer s H E hr).mono _ { nx := fun _ => ∀ v H', Back T O H H' → Da K (hide O H') v .none → Q v H', rt := fun d => ∀ v H', Back T O H H' → Da K (hide O H') v d → Q v H', ex := fun x => ∀ H' cls dd, Back T O H H' → ExR K x cls dd (hide O H') → E cls dd H' } _ ⟨fun ρ' h σ' H' O' r' _ => ?_, fun d h v ρ' σ' H' O' r' a => ?_, fun _ z => z.elim, fun _ z => z.elim, fun x h ρ' σ' H' O' cls dd r' q => ?_, fun _ z => z.elim⟩ q
      · exact h .non H' (r'.back r.dom).1 .non
      · obtain ⟨b1, b2⟩ := r'.back r.dom
        exact h v H' b1 (a.ext b2)
      · obtain ⟨b1, b2⟩ := r'.back r.dom
        exact h H' cls dd b1 (exR_ext b2 q)
end
section
variable {T : Tb} {X : Cx} {W : WX} {pos p pos' apos : Pos} {e a b o : Expr} {es : List Expr} {st : Stmt} {rest : List Stmt} {K : PySem.W.Frag} {G G2 : Gh} {ρ ρ2 : En} {σ σ2 : L2.St} {H H' : Hp} {D : Ends}
/-- o.m(e, ..), what is raised wished for at the slots -/
theorem pe_methSD {pl : Sem Bool} {C : Addr} {CX : CXT} {k : Nat} {f : Addr} {fd : FuncData} {ps : List Str} {sp : Sp} {m : Str} {E : L2.St → XK} {ta : TE} {t : TA} (he : PE X o ta) (c : Cls X.K C) (hm : Meth X.K C m f) (F : FnOk X.prog X.w X.K X.mg X.base CX k f fd ps sp) (hr : Room k X.A) (hb : Binds X.K fd ps []) (hx : ∀ σ, PassesAt CX X σ (E σ)) (ha : PA X (e :: es) t)
    (hst : starEach (e :: es) X.env = (false, eval e X.env) :: starEach es X.env) (hpl : (backTo pos (starEach es X.env)).any (·.1) = false)
    (ht : eval (.Call (.Attribute o m apos) (e :: es) [] pos) X.env = (do
      let ov ← eval o X.env
      standAt apos.atName
      let q ← holding [ov] (getMethod ov m pl)
      callWith pos q.1 q.2 (backTo pos (starEach (e :: es) X.env)) (backToKw pos (keywordEach [] X.env)))) :
    PE X (.Call (.Attribute o m apos) (e :: es) [] pos) (fun σ H Q => ta σ H fun x H1 => ∃ a dx fs, x = .ref a ∧ H1 a = some (.ins C dx fs) ∧ fs.lookup m = none ∧ t σ H1 fun vs H2 => sp (x :: vs) H2 Q (E σ)) := by
  refine ⟨fun pins s σ H Q I h => PySem.W.methodCall_KW (pl := pl) (thn (he.run pins s σ H _ I h) fun u s1 ⟨x, H1, I1, rx, a, dx, fs, ex, ea, l, q⟩ => ?_) ht⟩
  subst ex
  obtain rfl : u = Value.ref a := rx
  refine getmeth_ok I1 ea c hm l (PySem.W.callWith_K (first := [.ref a]) (h₀ := X.base) I.ok.mod.kin hm.kp (thn (ha.run pos pins s1 σ H1 _ I1 q) fun us s2 ⟨vs, H2, I2, r, q2⟩ => ⟨I2.kIn, ?_⟩) hst hpl)
  exact run_fnSD (us := .ref a :: us) (vs := .ref a :: vs) F hr hb .nil (hx σ) I2 (.cons rfl r) (by rw [List.append_nil]; exact q2)
end
end PL
set_option Elab.async false
set_option linter.all false
set_option maxRecDepth 100000
set_option maxHeartbeats 2000000
namespace PL
open PySem PySem.Spec PyProof.Rows L2
open LamX (ExtN Tabs TabS)
end PL
set_option Elab.async false
set_option linter.all false
set_option maxRecDepth 100000
set_option maxHeartbeats 2000000
namespace PL
open PySem PySem.Spec PyProof.Rows L2
open LamX (ExtN Tabs TabS)
end PL
set_option Elab.async false
set_option linter.all false
set_option maxRecDepth 100000
set_option maxHeartbeats 2000000
namespace PL
open PySem PySem.Spec PyProof.Rows L2
open LamX (ExtN Tabs TabS)
section
variable {T : Tb} {X : Cx} {W : WX} {pos p p2 pos' pos2 apos cpos : Pos} {e a b c : Expr} {st : Stmt} {K : PySem.W.Frag} {G : Gh} {ρ ρ2 : En} {σ σ2 : L2.St} {H H' : Hp}
theorem each_at {α β : Type} {R : α → β → Prop} : ∀ {xs : List α} {ys : List β}, xs.length = ys.length → (∀ (j : Nat) (x : α) (y : β), xs[j]? = some x → ys[j]? = some y → R x y) → PySem.W.EachIs R xs ys
  | [], [], _, _ => .nil
  | [], _ :: _, h, _ => by cases h
  | _ :: _, [], h, _ => by cases h
  | x :: xs, y :: ys, h, f => .cons (f 0 x y rfl rfl) (each_at (Nat.succ.inj h) fun j a b h1 h2 => f (j + 1) a b h1 h2)
end
end PL
set_option Elab.async false
set_option linter.all false
set_option maxRecDepth 100000
set_option maxHeartbeats 2000000
namespace PL
open PySem PySem.Spec PyProof.Rows L2
open LamX (ExtN Tabs TabS)
end PL
set_option Elab.async false
set_option linter.all false
set_option maxRecDepth 100000
set_option maxHeartbeats 2000000
namespace PL
open PySem PySem.Spec PyProof.Rows L2
open LamX (ExtN Tabs TabS)
end PL
set_option Elab.async false
set_option linter.all false
set_option maxRecDepth 100000
set_option maxHeartbeats 2000000
namespace PL
open PySem PySem.Spec PyProof.Rows L2
open LamX (ExtN Tabs TabS)
end PL
set_option Elab.async false
set_option linter.all false
set_option maxRecDepth 100000
set_option maxHeartbeats 2000000
namespace PL
open PySem PySem.Spec PyProof.Rows L2
open LamX (ExtN Tabs TabS)
section
variable {T : Tb} {X : Cx} {W : WX} {pos p p2 pos' pos2 apos cpos : Pos} {e a b c d : Expr} {st : Stmt} {K : PySem.W.Frag} {G : Gh} {ρ ρ2 : En} {σ σ2 : L2.St} {H H' : Hp} {tk tv : TE}
theorem TOk.updT {D : Addr} {kvs : List (List Key × V)} {o' : HO} (t : TOk T H) (hD : H D = some (.dT kvs)) : TOk T (L2.upd H D o') := t.put hD (fun _ z => by cases z) (fun _ z => by cases z) fun _ z => by unfold LamX.CodeO at z; cases z
end
end PL
set_option Elab.async false
set_option linter.all false
set_option maxRecDepth 100000
set_option maxHeartbeats 2000000
namespace PL
open PySem PySem.Spec PyProof.Rows L2
open LamX (ExtN Tabs TabS)
end PL
set_option Elab.async false
set_option linter.all false
set_option maxRecDepth 100000
set_option maxHeartbeats 2000000
namespace PL
open PySem PySem.Spec PyProof.Rows L2 KSet
open LamX (ExtN Tabs TabS)
end PL
set_option Elab.async false
set_option linter.all false
set_option maxRecDepth 100000
set_option maxHeartbeats 2000000
namespace PL
open PySem PySem.Spec PyProof.Rows L2
open LamX (ExtN Tabs TabS)
end PL
set_option Elab.async false
set_option linter.all false
set_option maxRecDepth 100000
set_option maxHeartbeats 2000000
namespace PL
open PySem PySem.Spec PyProof.Rows L2
open LamX (ExtN Tabs TabS)
/-- the class of registers, what of it is used -/
structure RgC (K : PySem.W.Frag) (C : Addr) : Prop where
  ns : PySem.W.nsIn K mainGlobals "Register" = some (some (.ref C))
  cl : Cls K C
  n1 : NoAttr K C "rooms"
  n2 : NoAttr K C "things"
  n3 : NoAttr K C "deeds"
  n4 : NoAttr K C "undone"
section
variable {T : Tb} {X : Cx} {W : WX} {pos p p2 p3 p4 p5 p6 p7 p8 p9 p10 p11 p12 pos' apos : Pos} {e a b o : Expr} {es : List Expr} {st : Stmt} {rest : List Stmt} {K : PySem.W.Frag} {G G2 : Gh} {ρ ρ2 : En} {σ σ2 : L2.St} {H H' : Hp} {D : Ends}
theorem dss_off {sts : List Stmt} : DSs T X W sts (fun _ _ => False) := ⟨⟨fun pins s σ H Q I h => by obtain ⟨_, _, _, _, z⟩ := h; exact z.elim⟩, fun _ _ _ _ z => z⟩
end
end PL
set_option Elab.async false
set_option linter.all false
set_option maxRecDepth 100000
set_option maxHeartbeats 2000000
namespace PL
open PySem PySem.Spec PyProof.Rows L2
open LamX (ExtN Tabs TabS)
section
variable {K : PySem.W.Frag} {H H' : Hp}
theorem ObF.sub {v : V} {d : PyData} (h : ObF K H v d) (e : ∀ b C dx r t d u, H b = some (.ins C dx (rgF r t d u)) → H t = some (.dT []) → H' b = some (.ins C dx (rgF r t d u)) ∧ H' t = some (.dT [])) : ObF K H' v d := by
  cases d with
  | int a => exact h
  | bool _ =>
    obtain ⟨b, dx, C, r, t, d, u, h1, h2, h3, h4⟩ := h
    obtain ⟨e1, e2⟩ := e _ _ _ _ _ _ _ h3 h4
    exact ⟨b, dx, C, r, t, d, u, h1, h2, e1, e2⟩
  | _ => exact h
mutual
theorem Da.sub (e : ∀ b o, H b = some o → Plain o → H' b = some o) (e2 : ∀ b C dx r t d u, H b = some (.ins C dx (rgF r t d u)) → H t = some (.dT []) → H' b = some (.ins C dx (rgF r t d u)) ∧ H' t = some (.dT [])) : ∀ {v : V} {d : PyData}, Da K H v d → Da K H' v d
  | _, _, .non => .non
  | _, _, .bl b => .bl b
  | _, _, .int i => .int i
  | _, _, .str x => .str x
  | _, _, .lst h r => .lst (e _ _ h trivial) (DaAll.sub e e2 r)
  | _, _, .tup h r => .tup (e _ _ h trivial) (DaAll.sub e e2 r)
  | _, _, .ftup h q n r => .ftup (e _ _ h trivial) q n (DaAll.sub e e2 r)
  | _, _, .dk h r => .dk (e _ _ h trivial) (DaAll.sub e e2 r)
  | _, _, .dt h n r => .dt (e _ _ h trivial) n (DaAll.sub e e2 r)
  | _, _, .dte h => .dte (e _ _ h trivial)
  | _, _, .ob h => .ob (h.sub e2)
  | _, _, .pt h q n r => .pt (e _ _ h trivial) q n (DaAll.sub e e2 r)
theorem DaAll.sub (e : ∀ b o, H b = some o → Plain o → H' b = some o) (e2 : ∀ b C dx r t d u, H b = some (.ins C dx (rgF r t d u)) → H t = some (.dT []) → H' b = some (.ins C dx (rgF r t d u)) ∧ H' t = some (.dT [])) : ∀ {vs : List V} {ds : List PyData}, DaAll K H vs ds → DaAll K H' vs ds
  | _, _, .nil => .nil
  | _, _, .cons h r => .cons (Da.sub e e2 h) (DaAll.sub e e2 r)
end
end
theorem keyTn_ik (k : List Int) (h : k ≠ []) : keyTn (keyI k) = some (ik k) := by
  cases k with
  | nil => exact absurd rfl h
  | cons x r =>
    show keysOf ((x :: r).map .int) = some (ik (x :: r))
    have : (x :: r).map PyData.int = (ik (x :: r)).map keyD := by
      unfold ik
      rw [List.map_map]
      rfl
    rw [this, keysOf_map]
theorem dtOf_val (ts : List TEn) (k : List Int) : valV (dtOf ts) (ik k) = valV (ts.map fun p => (p.1, p.2.2)) k := by
  unfold dtOf
  induction ts with
  | nil => rfl
  | cons p r ih =>
    unfold valV at ih ⊢
    rw [List.map_cons, List.map_cons, List.find?_cons, List.find?_cons]
    by_cases e : p.1 = k
    · subst e; simp
    · have e2 : ik p.1 ≠ ik k := fun z => e (ik_inj _ _ z)
      simp only [e, e2, decide_false]
      exact ih
section
variable {T : Tb} {X : Cx} {W : WX} {pos p p2 p3 pos' pos2 apos cpos : Pos} {e a b c o : Expr} {es : List Expr} {K : PySem.W.Frag} {G : Gh} {ρ ρ2 : En} {σ σ2 : L2.St} {H H' : Hp} {C : Addr}
theorem rr_at {i : Nat} {R : Reg} (r : Rep T K G ρ σ H) (hd : ρ[i]? = some (.rr R)) : ∃ A : RA, σ[i]? = some (some (.ref A.b)) ∧ RgAt K (hide G.O H) (hide G.O H) A R := by
  obtain ⟨v, h1, x, rfl, A, rfl, h⟩ := r.slot i _ hd
  exact ⟨A, h1, h⟩
theorem RgAt.insC {B : Hp} {A : RA} {R : Reg} (RC : RgC K C) (h : RgAt K B H A R) : ∃ dx r, H A.b = some (.ins C dx (rgF r A.t A.d A.u)) ∧ B r = some (.tup (R.rooms.map V.int)) := by
  obtain ⟨C', dx, r, h1, h2, h3⟩ := h.ins
  rw [RC.ns] at h1
  cases h1
  exact ⟨dx, r, h2, h3⟩
/-- what k finds -/
theorem thg_find {B : Hp} {ts : List TEn} {kvs : List (List Int × PyData)} (h1 : ts.map (·.1) = kvs.map (·.1)) (h2 : DaAll K B (ts.map (·.2.2)) (kvs.map (·.2))) (k : List Int) :
    (∃ v d, valV (dtOf ts) (ik k) = some v ∧ lookK kvs k = some d ∧ Da K B v d) ∨ (valV (dtOf ts) (ik k) = none ∧ lookK kvs k = none) := by
  rw [dtOf_val]
  exact look_da (vs := ts.map fun p => (p.1, p.2.2)) (by rw [List.map_map]; exact h1) (by rw [List.map_map]; exact h2)
def wThIn (neg : Bool) (i j : Nat) : PWB := fun ρ Q _ => ∃ R d k, ρ[i]? = some (.rr R) ∧ ρ[j]? = some (.sh d) ∧ keyTn d = some (ik k) ∧ Q (if neg then !(lookK R.things k).isSome else (lookK R.things k).isSome)
theorem mono_thIn {neg : Bool} {i j : Nat} : Mono (wThIn neg i j) := fun ρ Q Q' E E' hq _ ⟨R, d, k, h1, h2, h3, h4⟩ => ⟨R, d, k, h1, h2, h3, hq _ h4⟩
/-- the things seen as a plain dict -/
theorem thg_view {i j : Nat} {R : Reg} {d : PyData} {k : List Int} (RC : RgC X.K C) (r : Rep T X.K G ρ σ H) (hi : ρ[i]? = some (.rr R)) (hj : ρ[j]? = some (.sh d)) (hk : keyTn d = some (ik k)) :
    ∃ (A : RA) (kb : Addr) (ts : List TEn) (dx r' : Addr), σ[i]? = some (some (.ref A.b)) ∧ σ[j]? = some (some (.ref kb)) ∧ H A.t = some (RT A.t ts) ∧ (∀ pins s, Inv X pins σ H s → ObjOk X.prog X.w H s.heap A.t (.dT (dtOf ts))) ∧
      (∀ od, upd H A.t (.frz od (.dT (dtOf ts))) A.b = some (.ins C dx (rgF r' A.t A.d A.u)) ∧ DGet (upd H A.t (.frz od (.dT (dtOf ts)))) A.t (.ref kb) (valV (dtOf ts) (ik k))) ∧
      ((∃ v d, valV (dtOf ts) (ik k) = some v ∧ lookK R.things k = some d ∧ Da X.K (hide G.O H) v d) ∨ (valV (dtOf ts) (ik k) = none ∧ lookK R.things k = none)) := by
  obtain ⟨A, h1, h⟩ := rr_at r hi
  obtain ⟨v, h2, x, rfl, h3⟩ := r.slot j _ hj
  obtain ⟨kb, rfl, h4⟩ := keyT_da h3 hk
  obtain ⟨dx, r', h5, h6⟩ := h.insC RC
  obtain ⟨ts, h7, h8, h9, h10⟩ := h.thg
  have hT := (hide_some h7).2
  refine ⟨A, kb, ts, dx, r', h1, h2, hT, fun pins s I => rt_dT (I.hok _ _ hT) fun p hp => (hide_some (h9 p hp)).2, fun od => ⟨?_, .inr ⟨_, _, kb, .inr ⟨od, upd_same⟩, rfl, ?_, rfl⟩⟩, thg_find h8 h10 k⟩
  · rw [upd_ne fun z => ?_]
    · exact (hide_some h5).2
    · have := (hide_some h5).2
      rw [z, hT] at this
      cases this
  · rw [upd_ne fun z => ?_]
    · exact (hide_some h4).2
    · have := (hide_some h4).2
      rw [z, hT] at this
      cases this
theorem dt_thin {i j k : Nat} (RC : RgC X.K C) (hr : Room k X.A) (ho : PE X o (tVar i)) (hb : attributeBase o "things" X.env (eval o X.env) = eval o X.env) (hk : PE X a (tVar j)) (hm : behindInMarks .In (.Attribute o "things" p2) = false := by rfl) :
    DT T X W (.Compare a [.In] [.Attribute o "things" p2] pos) (wThIn false i j) :=
  ⟨pt_mono (pt_view (pt_cmp (pc_din (hu_of hr) hk (pe_fld ho hb)) hm)) fun σ H Q q => by
    obtain ⟨G, ρ, r, R, d, k, hi, hj, hk, q⟩ := q
    obtain ⟨A, kb, ts, dx, r', h1, h2, hT, n, hv, hf⟩ := thg_view RC r hi hj hk
    refine ⟨_, A.t, n, _, hT, fun od => ⟨_, h2, _, h1, A.b, C, dx, _, .ref A.t, rfl, (hv od).1, RC.cl, RC.n2, rfl, A.t, _, rfl, (hv od).2, _, rfl, upd_same, ?_⟩⟩
    rw [show upd (upd H A.t (HO.frz od (HO.dT (dtOf ts)))) A.t (HO.ext (RTw A.t ts)) = H from upd_back hT]
    have e : (valV (dtOf ts) (ik k)).isSome = (lookK R.things k).isSome := by
      rcases hf with ⟨v, d, e1, e2, _⟩ | ⟨e1, e2⟩ <;> rw [e1, e2] <;> rfl
    rw [e]
    exact q H r, mono_thIn⟩
theorem dt_thnin {i j k : Nat} (RC : RgC X.K C) (hr : Room k X.A) (ho : PE X o (tVar i)) (hb : attributeBase o "things" X.env (eval o X.env) = eval o X.env) (hk : PE X a (tVar j)) (hm : behindInMarks .NotIn (.Attribute o "things" p2) = false := by rfl) :
    DT T X W (.Compare a [.NotIn] [.Attribute o "things" p2] pos) (wThIn true i j) :=
  ⟨pt_mono (pt_view (pt_cmp (pc_dnotin (hu_of hr) hk (pe_fld ho hb)) hm)) fun σ H Q q => by
    obtain ⟨G, ρ, r, R, d, k, hi, hj, hk, q⟩ := q
    obtain ⟨A, kb, ts, dx, r', h1, h2, hT, n, hv, hf⟩ := thg_view RC r hi hj hk
    refine ⟨_, A.t, n, _, hT, fun od => ⟨_, h2, _, h1, A.b, C, dx, _, .ref A.t, rfl, (hv od).1, RC.cl, RC.n2, rfl, A.t, _, rfl, (hv od).2, _, rfl, upd_same, ?_⟩⟩
    rw [show upd (upd H A.t (HO.frz od (HO.dT (dtOf ts)))) A.t (HO.ext (RTw A.t ts)) = H from upd_back hT]
    have e : (valV (dtOf ts) (ik k)).isSome = (lookK R.things k).isSome := by
      rcases hf with ⟨v, d, e1, e2, _⟩ | ⟨e1, e2⟩ <;> rw [e1, e2] <;> rfl
    rw [e]
    exact q H r, mono_thIn⟩
/-- self.things[k] -/
def wThIx (i j : Nat) : PW := fun ρ Q _ => ∃ R d k x, ρ[i]? = some (.rr R) ∧ ρ[j]? = some (.sh d) ∧ keyTn d = some (ik k) ∧ lookK R.things k = some x ∧ Q x
theorem de_thix {i j k : Nat} (RC : RgC X.K C) (hr : Room k X.A) (ho : PE X o (tVar i)) (hb : attributeBase o "things" X.env (eval o X.env) = eval o X.env) (hk : PE X a (tVar j)) (hs : NoSl a) : DE T X W (.Subscript (.Attribute o "things" p2) a pos) (wThIx i j) :=
  ⟨pe_mono (pe_view (pe_dget (hu_of hr) (pe_fld ho hb) hk hs)) fun σ H Q q => by
    obtain ⟨G, ρ, r, R, d, k, x, hi, hj, hk, hx, q⟩ := q
    obtain ⟨A, kb, ts, dx, r', h1, h2, hT, n, hv, hf⟩ := thg_view RC r hi hj hk
    rcases hf with ⟨v, d', e1, e2, e3⟩ | ⟨e1, e2⟩
    · rw [hx] at e2
      cases e2
      refine ⟨_, A.t, n, _, hT, fun od => ⟨_, h1, A.b, C, dx, _, .ref A.t, rfl, (hv od).1, RC.cl, RC.n2, rfl, _, h2, A.t, v, rfl, by rw [← e1]; exact (hv od).2, upd_same, ?_⟩⟩
      rw [show upd (upd H A.t (HO.frz od (HO.dT (dtOf ts)))) A.t (HO.ext (RTw A.t ts)) = H from upd_back hT]
      exact q v H r e3
    · exact absurd (hx.symm.trans e2) (fun z => (by cases z)), fun ρ Q Q' E E' hq _ ⟨R, d, k, x, h1, h2, h3, h4, h5⟩ => ⟨R, d, k, x, h1, h2, h3, h4, hq _ h5⟩⟩
/-- self.rooms -/
def wRooms (i : Nat) : PW := fun ρ Q _ => ∃ R, ρ[i]? = some (.rr R) ∧ Q (.tuple (R.rooms.map .int))
theorem de_rooms {i : Nat} (RC : RgC X.K C) (ho : PE X o (tVar i)) (hb : attributeBase o "rooms" X.env (eval o X.env) = eval o X.env) : DE T X W (.Attribute o "rooms" pos) (wRooms i) :=
  ⟨pe_mono (pe_fld ho hb) fun σ H Q q => by
    obtain ⟨G, ρ, r, R, hi, q⟩ := q
    obtain ⟨A, h1, h⟩ := rr_at r hi
    obtain ⟨dx, r', h5, h6⟩ := h.insC RC
    exact ⟨_, h1, A.b, C, dx, _, .ref r', rfl, (hide_some h5).2, RC.cl, RC.n1, rfl, q _ H r (.tup h6 (daAll_ints _))⟩, fun ρ Q Q' E E' hq _ ⟨R, h1, h2⟩ => ⟨R, h1, hq _ h2⟩⟩
/-- sorted(self.things.items()) -/
def wSortR (i : Nat) : PW := fun ρ Q _ => ∃ R, ρ[i]? = some (.rr R) ∧ (∀ p ∈ R.things, Pl p.2) ∧ (R.things.map (·.1)).Nodup ∧ Q (.list ((R.things.mergeSort (PySem.W.dataLe false fun p => keyI p.1)).map itemI))
theorem df_sortr {k i : Nat} (RC : RgC X.K C) (hc : X.calm = true) (hr : Room k X.A) (hg : Gl X "sorted") (hm : X.mg "sorted" = none) (ho : PE X o (tVar i)) (hb : attributeBase o "things" X.env (eval o X.env) = eval o X.env) (hbase : attributeBase (.Attribute o "things" p2) "items" X.env (eval (.Attribute o "things" p2) X.env) = eval (.Attribute o "things" p2) X.env := by rfl) (hline : (apos.endLine == cpos.line) = true := by rfl)
    (he : starEach [.Call (.Attribute (.Attribute o "things" p2) "items" apos) [] [] cpos] X.env = (false, eval (.Call (.Attribute (.Attribute o "things" p2) "items" apos) [] [] cpos) X.env) :: starEach [] X.env := by rfl) :
    DF T X W (.Call (.Name "sorted" p) [.Call (.Attribute (.Attribute o "things" p2) "items" apos) [] [] cpos] [] pos) (wSortR i) :=
  ⟨pe_mono (pe_callB (cr_sr (T := T) hc hr) hg hm (by decide +kernel : bootBuiltins "sorted" = some (.builtin "sorted")) (pa_cons (pe_itemsR (pe_fld ho hb) hbase hline) pa_nil he) (by decide) (by decide) he rfl) fun σ H Q q => by
    obtain ⟨G, ρ, r, R, hi, q1, q2, q⟩ := q
    obtain ⟨A, h1, h⟩ := rr_at r hi
    obtain ⟨dx, r', h5, h6⟩ := h.insC RC
    obtain ⟨ts, h7, h8, h9, h10⟩ := h.thg
    refine ⟨_, h1, A.b, C, dx, _, .ref A.t, rfl, (hide_some h5).2, RC.cl, RC.n2, rfl, A.t, ts, rfl, (hide_some h7).2, fun p hp => ?_⟩
    obtain ⟨r2, x2, np, h2⟩ := r.new (o := L2.DX.itemsO p A.t) hp
    have hpd : A.t ≠ p := fun z => by rw [← z, (hide_some h7).2] at hp; cases hp
    exact ⟨p, A.t, ts, R.things, G, ρ, σ, rfl, r2, upd_same, by rw [upd_ne hpd]; exact (hide_some h7).2, h8, fun q hq => x2 _ _ (h9 q hq) (fun ps z => by cases z), h10.ext x2, q1, q2, fun l ws H' r' na ap h7 h8 => q l ws _ H' rfl r' na ap h7 h8⟩,
   fun ρ Q Q' E E' hq he ⟨R, h1, h2, h3, h4⟩ => ⟨R, h1, h2, h3, hq _ h4⟩⟩
/-- return tuple(e), told as plain -/
def sRetM (w : PW) : SW := fun ρ D => w ρ (fun d => match d with | .list xs => NK xs ∧ D.rt (ptM xs) | _ => False) D.ex
theorem ds_retM {w : PW} (hg : Gl X "tuple") (hm : X.mg "tuple" = none) (h : DR T X W e w) (he : starEach [e] X.env = (false, eval e X.env) :: starEach [] X.env := by rfl) : DS T X W (.Return (some (.Call (.Name "tuple" p) [e] [] pos')) pos) (sRetM w) :=
  ⟨ps_mono (ps_ret (pe_callTy (call_tupleF (X := X)) hg hm (by decide +kernel : bootBuiltins "tuple" = some (.type "tuple")) (pa_cons h.pe pa_nil he) (by decide) (by decide) he rfl)) fun D σ H q => by
    obtain ⟨G, ρ, r, fa, q⟩ := q
    refine ⟨G, ρ, r, h.mono _ _ _ _ _ (fun d hd v H' r' t => ?_) (fun _ z => ex_out' z) q⟩
    cases d with
    | list ds =>
      obtain ⟨a, vs, rfl, ha, hx⟩ := t.da
      refine ⟨a, vs, rfl, SqL.of ha, fun l ob hob hl => ?_⟩
      obtain ⟨r2, e2, np, h2⟩ := r'.new (o := .frz ob (.tup vs)) hl
      exact hd.2 _ ρ σ _ G.O r2 (.pt h2 hob hd.1 (hx.ext e2))
    | _ => exact hd.elim, fun ρ D D' l q => h.mono _ _ _ _ _ (fun d hd => by cases d <;> first | exact ⟨hd.1, l.rt _ hd.2⟩ | exact hd) l.ex q⟩
theorem pt_inv {v : V} {xs : List PyData} (h : Da K H v (ptM xs)) : ∃ a ob vs, v = .ref a ∧ H a = some (.frz ob (.tup vs)) ∧ ob.dict = none ∧ NK xs ∧ DaAll K H vs xs := by
  unfold ptM at h
  generalize hd : PyData.dict [(.bool false, .tuple xs)] = d at h
  have kd : ∀ k : Key, keyD k ≠ .bool false := fun k e => by cases k <;> cases e
  cases h with
  | dk h1 h2 =>
    rename_i a kvs ds
    injection hd with hd
    cases kvs with
    | nil => cases hd
    | cons q r => cases ds with
      | nil => cases hd
      | cons y t => exact absurd (Prod.mk.inj (List.cons.inj hd).1).1.symm (kd _)
  | dt h1 h2 h3 =>
    rename_i a kvs ds
    injection hd with hd
    cases kvs with
    | nil => cases hd
    | cons q r => cases ds with
      | nil => cases hd
      | cons y t => exact absurd (Prod.mk.inj (List.cons.inj hd).1).1 (fun z => by cases z)
  | dte h1 => cases hd
  | ob h1 => cases hd
  | pt h1 h2 h3 h4 => cases hd; exact ⟨_, _, _, rfl, h1, h2, h3, h4⟩
  | _ => cases hd
theorem pt_tup {v : V} {xs : List PyData} (h : Da K H v (ptM xs)) : Da K H v (.tuple xs) := by
  obtain ⟨a, ob, vs, rfl, h1, h2, h3, h4⟩ := pt_inv h
  exact .ftup h1 h2 h3 h4
/-- told as a tuple -/
def wUnp (w : PW) : PW := fun ρ Q E => w ρ (fun d => ∃ xs, d = ptM xs ∧ Q (.tuple xs)) E
theorem de_unp {w : PW} (h : DE T X W e w) : DE T X W e (wUnp w) := ⟨pe_mono h.pe fun σ H Q q => by
  obtain ⟨G, ρ, r, q⟩ := q
  exact ⟨G, ρ, r, h.mono _ _ _ _ _ (fun d ⟨xs, e1, hd⟩ v H' r' a => by subst e1; exact hd v H' r' (pt_tup a)) (fun _ z => z) q⟩, fun ρ Q Q' E E' hq he q => h.mono _ _ _ _ _ (fun d ⟨xs, h1, h2⟩ => ⟨xs, h1, hq _ h2⟩) he q⟩
def deP (p : List PyData × List PyData) : PyData := .tuple [.tuple p.1, .tuple p.2]
theorem de_plain {v : V} {p : List PyData × List PyData} (h : Da K H v (deD p)) : Da K H v (deP p) := by
  unfold deD at h
  unfold deP
  cases h with
  | tup h1 h2 => cases h2 with
    | cons a b => cases b with
      | cons c d => cases d with
        | nil => exact .tup h1 (.cons (pt_tup a) (.cons (pt_tup c) .nil))
  | ftup h1 h2 h3 h4 => cases h4 with
    | cons a b => cases b with
      | cons c d => cases d with
        | nil => exact .ftup h1 h2 (.inr ⟨_, List.mem_cons_self, fun k e => by cases k <;> cases e⟩) (.cons (pt_tup a) (.cons (pt_tup c) .nil))
theorem des_plain : ∀ {vs : List V} {ps : List (List PyData × List PyData)}, DaAll K H vs (ps.map deD) → DaAll K H vs (ps.map deP)
  | [], [], .nil => .nil
  | _ :: _, _ :: _, .cons h t => .cons (de_plain h) (des_plain t)
theorem op_eqD {k : Nat} (hr : Room k X.A) : OpR X (compareOp .Eq) (fun x y H Q => ∃ d e, Dp X.K H x d ∧ Dp X.K H y e ∧ Pl d ∧ Pl e ∧ Q (.bl (PyData.eqv d e)) H) := by
  intro pins s σ0 H x y v u Q I rx ry q
  obtain ⟨d, e, h1, h2, ⟨pd, dd⟩, ⟨pe, de⟩, q⟩ := q
  obtain ⟨as, r1⟩ := Dp.reads I d x v h1 rx
  obtain ⟨bs, r2⟩ := Dp.reads I e y u h2 ry
  exact SeqAt.eq_plain r1 r2 pd pe (by have := hr.un; have : min d.depth e.depth ≤ d.depth := Nat.min_le_left _ _; omega) ⟨.bl _, H, I, rfl, q⟩
/-- one of the two lists -/
inductive LF where
  | deeds
  | undone
def LF.nm : LF → Str
  | .deeds => "deeds"
  | .undone => "undone"
def LF.ad : LF → RA → Addr
  | .deeds, A => A.d
  | .undone, A => A.u
def LF.of : LF → Reg → List (List PyData × List PyData)
  | .deeds, R => R.deeds
  | .undone, R => R.undone
theorem LF.no {K : PySem.W.Frag} (RC : RgC K C) (f : LF) : NoAttr K C f.nm := by cases f; exact RC.n3; exact RC.n4
theorem LF.look (f : LF) (r : Addr) (A : RA) : (rgF r A.t A.d A.u).lookup f.nm = some (.ref (f.ad A)) := by cases f <;> rfl
theorem LF.at {B : Hp} {A : RA} {R : Reg} (f : LF) (h : RgAt K B H A R) : ∃ vs, H (f.ad A) = some (RL (f.ad A) vs) ∧ DaAll K B vs ((f.of R).map deD) := by cases f; exact h.dee; exact h.und
def wLNil (f : LF) (i : Nat) : PWB := fun ρ Q _ => ∃ R, ρ[i]? = some (.rr R) ∧ Pl (.list ((f.of R).map deP)) ∧ Q (f.of R).isEmpty
theorem dt_lnil {k i : Nat} (f : LF) (RC : RgC X.K C) (hr : Room k X.A) (ho : PE X o (tVar i)) (hb : attributeBase o f.nm X.env (eval o X.env) = eval o X.env) (hm : behindInMarks .Eq (.List [] p3) = false := by rfl) :
    DT T X W (.Compare (.Attribute o f.nm p2) [.Eq] [.List [] p3] pos) (wLNil f i) :=
  ⟨pt_mono (pt_view (pt_cmpR (op_eqD hr) (pe_fld ho hb) (pe_lst pa_nil) hm)) fun σ H Q q => by
    obtain ⟨G, ρ, r, R, hi, hp, q⟩ := q
    obtain ⟨A, h1, h⟩ := rr_at r hi
    obtain ⟨dx, r', h5, h6⟩ := h.insC RC
    obtain ⟨vs, h7, h8⟩ := f.at h
    have hT := (hide_some h7).2
    refine ⟨.lst vs, f.ad A, fun pins s I => rl_lst (I.hok _ _ hT), _, hT, fun od => ⟨_, h1, A.b, C, dx, _, _, rfl, ?_, RC.cl, f.no RC, f.look r' A, ?_⟩⟩
    · rw [upd_ne fun z => ?_]
      · exact (hide_some h5).2
      · have := (hide_some h5).2
        rw [z, hT] at this
        cases this
    · refine ⟨Nat.zero_le _, fun l hl => ?_⟩
      have hl0 : H l = none := by
        by_cases z : l = f.ad A
        · rw [z, upd_same] at hl; cases hl
        · rwa [upd_ne z] at hl
      have lne : f.ad A ≠ l := ne_of_none hT hl0
      have pe : Pl (.list []) := ⟨rfl, by decide⟩
      have dv : Da X.K (upd (upd H (f.ad A) (.frz od (.lst vs))) l (.lst [])) (.ref l) (.list []) := .lst upd_same .nil
      have ne : ∀ {b o}, H b = some o → (∀ φ, o ≠ .ext φ) → upd (upd H (f.ad A) (.frz od (.lst vs))) l (.lst []) b = some o := fun {b o} hb po => by
        rw [upd_ne (ne_of_none hb hl0), upd_ne (fun z => by rw [z, hT] at hb; cases hb; exact po _ rfl)]
        exact hb
      have e1 : ∀ b o, hide G.O H b = some o → Plain o → upd (upd H (f.ad A) (.frz od (.lst vs))) l (.lst []) b = some o := fun b o hb po => ne (hide_some hb).2 fun φ z => by rw [z] at po; exact po
      have dd := DaAll.dp (DaAll.sub e1 (fun b C dx r t d u g1 g2 => ⟨ne (hide_some g1).2 (fun φ z => by cases z), ne (hide_some g2).2 (fun φ z => by cases z)⟩) (des_plain h8)) (by simpa [PyData.plain] using hp.1)
      have at1 : upd (upd H (f.ad A) (.frz od (.lst vs))) l (.lst []) (f.ad A) = some (.frz od (.lst vs)) := by rw [upd_ne lne, upd_same]
      refine ⟨.list ((f.of R).map deP), .list [], .lst (.inl (.inr ⟨od, at1⟩)) dd, dv.dp rfl, hp, pe, _, rfl, at1, ?_⟩
      have eH : upd (upd (upd H (f.ad A) (.frz od (.lst vs))) l (.lst [])) (f.ad A) (.ext (RLw (f.ad A) vs)) = upd H l (.lst []) := by
        funext b
        by_cases z : b = f.ad A
        · subst z; rw [upd_same, upd_ne lne]; exact hT.symm
        · rw [upd_ne z]
          by_cases z2 : b = l
          · subst z2; rw [upd_same, upd_same]
          · rw [upd_ne z2, upd_ne z2, upd_ne z]
      rw [eH]
      have ev : PyData.eqv (.list ((f.of R).map deP)) (.list []) = (f.of R).isEmpty := by cases f.of R <;> rfl
      rw [ev]
      exact q _ (r.new hl0).1, fun ρ Q Q' E E' hq _ ⟨R, h1, h2, h3⟩ => ⟨R, h1, h2, hq _ h3⟩⟩
end
end PL
set_option Elab.async false
set_option linter.all false
set_option maxRecDepth 100000
set_option maxHeartbeats 2000000
namespace PL
open PySem PySem.Spec PyProof.Rows L2
open LamX (ExtN Tabs TabS)
section
variable {T : Tb} {X : Cx} {W : WX} {pos p p2 p3 pos' pos2 apos cpos : Pos} {e a b c o : Expr} {es : List Expr} {K : PySem.W.Frag} {G : Gh} {ρ ρ2 : En} {σ σ2 : L2.St} {H H' : Hp} {C : Addr}
/-- o.m(), what is raised wished for at the slots -/
theorem pe_meth0 {pl : Sem Bool} {C : Addr} {CX : CXT} {k : Nat} {f : Addr} {fd : FuncData} {ps : List Str} {sp : Sp} {m : Str} {E : L2.St → XK} {ta : TE} (he : PE X o ta) (c : Cls X.K C) (hm : Meth X.K C m f) (F : FnOk X.prog X.w X.K X.mg X.base CX k f fd ps sp) (hr : Room k X.A) (hb : Binds X.K fd ps []) (hx : ∀ σ, PassesAt CX X σ (E σ))
    (ht : eval (.Call (.Attribute o m apos) [] [] pos) X.env = (do
      let ov ← eval o X.env
      standAt apos.atName
      let q ← holding [ov] (getMethod ov m pl)
      callWith pos q.1 q.2 (backTo pos (starEach [] X.env)) (backToKw pos (keywordEach [] X.env)))) :
    PE X (.Call (.Attribute o m apos) [] [] pos) (fun σ H Q => ta σ H fun x H1 => ∃ a dx fs, x = .ref a ∧ H1 a = some (.ins C dx fs) ∧ fs.lookup m = none ∧ sp [x] H1 Q (E σ)) := by
  refine ⟨fun pins s σ H Q I h => PySem.W.methodCall_KW (pl := pl) (thn (he.run pins s σ H _ I h) fun u s1 ⟨x, H1, I1, rx, a, dx, fs, ex, ea, l, q⟩ => ?_) ht⟩
  subst ex
  obtain rfl : u = Value.ref a := rx
  refine getmeth_ok I1 ea c hm l (PySem.W.callWith_K0 (first := [.ref a]) I1.kIn hm.kp ?_)
  exact run_fnSD (us := [.ref a]) (vs := [.ref a]) F hr hb .nil (hx σ) I1 (.cons rfl .nil) q
/-- o.m(..) on a register that is read only -/
def wMethR (n i : Nat) (c : PW) (ws : PWp) : PW := fun ρ Q E => ∃ R, ρ[i]? = some (.rr R) ∧ ws ρ (fun ss => ss.length + 1 = n ∧ c (.rr R :: ss) Q E) E
theorem mono_methR {n i : Nat} {c : PW} {ws : PWp} (mc : Mono c) (mw : Mono ws) : Mono (wMethR n i c ws) := fun ρ Q Q' E E' hq he ⟨R, h1, h2⟩ => ⟨R, h1, mw _ _ _ _ _ (fun ss hss => ⟨hss.1, mc _ _ _ _ _ hq he hss.2⟩) he h2⟩
theorem de_methR {pl : Sem Bool} {k n i : Nat} {f : Addr} {fd : FuncData} {ps : List Str} {c : PW} {ws : PWp} {m : Str} (RC : RgC X.K C) (hm : Meth X.K C m f) (hl : ∀ r t d u, (rgF r t d u).lookup m = none) (F : FnOk X.prog X.w X.K X.mg X.base (L2.CX X.prog X.w) k f fd ps (spD T X.K n c)) (mc : Mono c) (hr : Room k X.A)
    (hb : Binds X.K fd ps []) (tk : Takes X W) (ho : PE X o (tVar i)) (h : DP T X W (e :: es) ws) (hst : starEach (e :: es) X.env = (false, eval e X.env) :: starEach es X.env) (hpl : (backTo pos (starEach es X.env)).any (·.1) = false)
    (ht : eval (.Call (.Attribute o m apos) (e :: es) [] pos) X.env = (do
      let ov ← eval o X.env
      standAt apos.atName
      let q ← holding [ov] (getMethod ov m pl)
      callWith pos q.1 q.2 (backTo pos (starEach (e :: es) X.env)) (backToKw pos (keywordEach [] X.env)))) : DE T X W (.Call (.Attribute o m apos) (e :: es) [] pos) (wMethR n i c ws) :=
  ⟨pe_mono (pe_methSD (E := WE W) ho RC.cl hm F hr hb (fun σ => passAt tk σ) h.pa hst hpl ht) fun σ H Q q => by
    obtain ⟨G, ρ, r, R, hd, q⟩ := q
    obtain ⟨A, h1, h2⟩ := rr_at r hd
    obtain ⟨dx, r', h4, _⟩ := h2.insC RC
    refine ⟨_, h1, A.b, dx, _, rfl, (hide_some h4).2, hl _ _ _ _, ?_⟩
    refine ⟨⟨hide G.O H, G.O, G.fl⟩, ρ, r.rebase, h.mono _ _ _ _ _ (fun ss hss vs H1 r1 a1 => ?_) (fun x hx H' cls dd r' q => hx H' cls dd (r'.unbase r.ext) q) q⟩
    have r1' := r1.unbase r.ext
    obtain ⟨r2, no⟩ := args_rep r1' (.cons (s := .rr R) (show ArgOk T X.K (hide G.O H1) (.ref A.b) (.rr R) from RrOk.ext ⟨A, rfl, h2⟩ r1.ext) a1)
    exact ⟨G.O, .rr R :: ss, hss.1, r2, no, mc _ _ _ _ _ (fun d hd v H' bk a => hd v H' (r1'.forth bk) a) (fun x hx H' cls dd bk q => hx H' cls dd (r1'.forth bk) q) hss.2⟩,
   mono_methR mc h.mono⟩
theorem de_methR0 {pl : Sem Bool} {k i : Nat} {f : Addr} {fd : FuncData} {ps : List Str} {c : PW} {m : Str} (RC : RgC X.K C) (hm : Meth X.K C m f) (hl : ∀ r t d u, (rgF r t d u).lookup m = none) (F : FnOk X.prog X.w X.K X.mg X.base (L2.CX X.prog X.w) k f fd ps (spD T X.K 1 c)) (mc : Mono c) (hr : Room k X.A)
    (hb : Binds X.K fd ps []) (tk : Takes X W) (ho : PE X o (tVar i))
    (ht : eval (.Call (.Attribute o m apos) [] [] pos) X.env = (do
      let ov ← eval o X.env
      standAt apos.atName
      let q ← holding [ov] (getMethod ov m pl)
      callWith pos q.1 q.2 (backTo pos (starEach [] X.env)) (backToKw pos (keywordEach [] X.env)))) : DE T X W (.Call (.Attribute o m apos) [] [] pos) (wMethR 1 i c wpNil) :=
  ⟨pe_mono (pe_meth0 (E := WE W) ho RC.cl hm F hr hb (fun σ => passAt tk σ) ht) fun σ H Q q => by
    obtain ⟨G, ρ, r, R, hd, _, q⟩ := q
    obtain ⟨A, h1, h2⟩ := rr_at r hd
    obtain ⟨dx, r', h4, _⟩ := h2.insC RC
    refine ⟨_, h1, A.b, dx, _, rfl, (hide_some h4).2, hl _ _ _ _, ?_⟩
    obtain ⟨r2, no⟩ := args_rep r (.cons (s := .rr R) (show ArgOk T X.K (hide G.O H) (.ref A.b) (.rr R) from ⟨A, rfl, h2⟩) .nil)
    exact ⟨G.O, [.rr R], rfl, r2, no, mc _ _ _ _ _ (fun d hd v H' bk a => hd v H' (r.forth bk) a) (fun x hx H' cls dd bk q => hx H' cls dd (r.forth bk) q) q⟩,
   mono_methR mc (fun ρ Q Q' E E' hq he z => hq _ z)⟩
end
/-- what may stand beside the register -/
def Sl.by : Sl → Bool
  | .on _ => false
  | .ln _ _ => false
  | .rg _ _ => false
  | _ => true
def ByE (i : Nat) (ρ : En) : Prop := ∀ (j : Nat) (s : Sl), j ≠ i → ρ[j]? = some s → s.by = true
open Classical in
noncomputable def outO (A : RA) (O : List Addr) : List Addr := O.filter fun a => decide (¬ A.has a)
open Classical in
theorem mem_outO {A : RA} {O : List Addr} {a : Addr} : a ∈ outO A O ↔ a ∈ O ∧ ¬ A.has a := by
  unfold outO
  rw [List.mem_filter, decide_eq_true_eq]
open Classical in
noncomputable def outF (A : RA) (fl : List (Addr × HO)) : List (Addr × HO) := fl.filter fun q => decide (¬ A.has q.1)
open Classical in
theorem mem_outF {A : RA} {fl : List (Addr × HO)} {q : Addr × HO} : q ∈ outF A fl ↔ q ∈ fl ∧ ¬ A.has q.1 := by
  unfold outF
  rw [List.mem_filter, decide_eq_true_eq]
section
variable {T : Tb} {X : Cx} {W : WX} {pos p p2 p3 pos' pos2 apos cpos : Pos} {e a b c o : Expr} {es : List Expr} {K : PySem.W.Frag} {G : Gh} {ρ ρ2 : En} {σ σ2 : L2.St} {H H' : Hp} {C : Addr} {A : RA} {R : Reg} {i : Nat}
/-- the parts of a register, as they stand -/
theorem RgAt.kind {B : Hp} (h : RgAt K B H A R) : ∀ a, A.has a → ∃ o, H a = some o ∧ ¬ Plain o ∧ NT o ∧ (∀ C dx r t d u, o = .ins C dx (rgF r t d u) → t = A.t ∧ ∃ φ, H A.t = some (.ext φ)) := by
  obtain ⟨⟨C, dx, r, h1, h2, h3⟩, ⟨ts, h4, _⟩, ⟨vs, h8, h9⟩, ⟨us, h10, h11⟩⟩ := h
  rintro a (rfl | rfl | rfl | rfl)
  · refine ⟨_, h2, fun z => z, nt_of rfl, fun C' dx' r' t d u e => ?_⟩
    have e3 : rgF r A.t A.d A.u = rgF r' t d u := by injection e
    unfold rgF at e3
    have e4 : A.t = t := by simp_all
    exact ⟨e4.symm, _, h4⟩
  · exact ⟨_, h4, fun z => z, nt_of rfl, fun _ _ _ _ _ _ e => by cases e⟩
  · exact ⟨_, h8, fun z => z, nt_of rfl, fun _ _ _ _ _ _ e => by cases e⟩
  · exact ⟨_, h10, fun z => z, nt_of rfl, fun _ _ _ _ _ _ e => by cases e⟩
/-- data do not lean on the parts -/
theorem da_off {O O' : List Addr} {B : Hp} (h : RgAt K B H A R) (hO : ∀ b ∈ O', b ∈ O ∨ A.has b) {v : V} {d : PyData} (x : Da K (hide O H) v d) : Da K (hide O' H) v d := by
  refine Da.sub (fun b o hb po => ?_) (fun b C dx r t d u g1 g2 => ?_) x
  · obtain ⟨g1, g2⟩ := hide_some hb
    rw [hide_out fun z => (hO b z).elim g1 fun z => h.ne g2 po b z rfl]
    exact g2
  · obtain ⟨k1, k2⟩ := hide_some g1
    obtain ⟨k3, k4⟩ := hide_some g2
    refine ⟨?_, ?_⟩
    · rw [hide_out fun z => (hO b z).elim k1 fun z => ?_]
      · exact k2
      · obtain ⟨o, ho, _, _, hk⟩ := h.kind b z
        rw [k2] at ho
        cases ho
        obtain ⟨e1, φ, e2⟩ := hk _ _ _ _ _ _ rfl
        rw [← e1, k4] at e2
        cases e2
    · rw [hide_out fun z => (hO t z).elim k3 fun z => h.ne k4 trivial t z rfl]
      exact k4
theorem daAll_off {O O' : List Addr} {B : Hp} (h : RgAt K B H A R) (hO : ∀ b ∈ O', b ∈ O ∨ A.has b) : ∀ {vs : List V} {ds : List PyData}, DaAll K (hide O H) vs ds → DaAll K (hide O' H) vs ds
  | _, _, .nil => .nil
  | _, _, .cons x r => .cons (da_off h hO x) (daAll_off h hO r)
theorem Rep.rgAt (r : Rep T K G ρ σ H) (hi : ρ[i]? = some (.rg A R)) : σ[i]? = some (some (.ref A.b)) ∧ RgOwn T.dc G.O A ∧ A.apart ∧ RgAt K (hide G.O H) H A R := by
  obtain ⟨v, h1, rfl, h2⟩ := r.slot i _ hi
  exact ⟨h1, h2⟩
theorem by_ne {s : Sl} {v : Option V} {a : Addr} (hb : s.by = true) (ho : s.owned = true) (h : SlOk K T.dc G.O H s v) (e : v = some (.ref a)) (hR : RgAt K (hide G.O H) H A R) : ¬ A.has a := fun z => by
  cases s with
  | ol _ => obtain ⟨b, vs, h1, _, h3, _⟩ := h; rw [h1] at e; cases e; exact hR.ne h3 trivial _ z rfl
  | ok _ => obtain ⟨b, vs, h1, _, h3, _⟩ := h; rw [h1] at e; cases e; exact hR.ne h3 trivial _ z rfl
  | ot _ => obtain ⟨b, vs, h1, _, h3, _⟩ := h; rw [h1] at e; cases e; exact hR.ne h3 trivial _ z rfl
  | on _ => cases hb
  | ln _ _ => cases hb
  | rg _ _ => cases hb
  | _ => cases ho
theorem Rep.lend (r : Rep T K G ρ σ H) (hi : ρ[i]? = some (.rg A R)) (by_ : ByE i ρ) : Rep T K ⟨hide (outO A G.O) H, outO A G.O, outF A G.fl⟩ (ρ.set i (.rr R)) σ H := by
  obtain ⟨h1, own, ne, hR⟩ := r.rgAt hi
  have sub : ExtN (hide G.O H) (hide (outO A G.O) H) := ext_sub fun b hb => (mem_outO.mp hb).1
  have il : i < ρ.length := (List.getElem?_eq_some_iff.mp hi).1
  have oth : ∀ {j : Nat} {s : Sl}, (ρ.set i (.rr R))[j]? = some s → s.owned = true → j ≠ i ∧ ρ[j]? = some s := fun {j s} hj hs => by
    by_cases z : i = j
    · subst z
      rw [List.getElem?_set_self il] at hj
      cases hj
      cases hs
    · rw [List.getElem?_set_ne z] at hj
      exact ⟨fun z' => z z'.symm, hj⟩
  refine ⟨by rw [List.length_set]; exact r.len, fun j s hj => ?_, fun j k s t b hjk hj hk hs ht e1 e2 => ?_, r.tab, ExtN.refl _, fun a ha => r.dom a (mem_outO.mp ha).1, fun q hq => ?_, fun a ha => ?_⟩
  · by_cases z : i = j
    · subst z
      rw [List.getElem?_set_self il] at hj
      cases hj
      refine ⟨_, h1, _, rfl, A, rfl, hR.ext sub fun a ha => hide_out fun z => (mem_outO.mp z).2 ha⟩
    · rw [List.getElem?_set_ne z] at hj
      obtain ⟨v, g1, g2⟩ := r.slot j s hj
      have bj := by_ j s (Ne.symm z) hj
      have mem : ∀ b, s.owned = true → v = some (.ref b) → Own T.dc G.O b → Own T.dc (outO A G.O) b := fun b ho ev hb => ⟨mem_outO.mpr ⟨hb.1, by_ne (T := T) (G := G) bj ho g2 ev hR⟩, hb.2⟩
      refine ⟨v, g1, ?_⟩
      cases s with
      | un => trivial
      | sh d => obtain ⟨x, h3, h4⟩ := g2; exact ⟨x, h3, h4.ext sub⟩
      | ol ds => obtain ⟨b, vs, h3, h4, h5, h6⟩ := g2; exact ⟨b, vs, h3, mem b rfl h3 h4, h5, h6.ext sub⟩
      | ok ds => obtain ⟨b, vs, h3, h4, h5, h6, h7⟩ := g2; exact ⟨b, vs, h3, mem b rfl h3 h4, h5, h6, h7.ext sub⟩
      | ot ds => obtain ⟨b, vs, h3, h4, h5, h6, h7⟩ := g2; exact ⟨b, vs, h3, mem b rfl h3 h4, h5, h6, h7.ext sub⟩
      | ln b _ => cases bj
      | on ds => cases bj
      | sn d => obtain ⟨x, h3, h4⟩ := g2; exact ⟨x, h3, h4.ext sub⟩
      | sk d => obtain ⟨x, h3, h4⟩ := g2; exact ⟨x, h3, h4.ext sub⟩
      | rr d => obtain ⟨x, h3, h4⟩ := g2; exact ⟨x, h3, h4.ext sub⟩
      | rg _ _ => cases bj
      | dice => exact g2
      | scr ns => obtain ⟨b, h3, h4⟩ := g2; exact ⟨b, h3, sqL_ext sub h4⟩
  · obtain ⟨_, hj'⟩ := oth hj hs
    obtain ⟨_, hk'⟩ := oth hk ht
    exact r.sep j k s t b hjk hj' hk' hs ht e1 e2
  · obtain ⟨g1, g2⟩ := mem_outF.mp hq
    obtain ⟨g3, g4⟩ := r.fly q g1
    exact ⟨mem_outO.mpr ⟨g3, g2⟩, g4⟩
  · obtain ⟨g1, g2, g3⟩ := r.dcs a ha
    exact ⟨mem_outO.mpr ⟨g1, fun z => (own a z).2 ha⟩, g2, fun q hq => g3 q (mem_outF.mp hq).1⟩
/-- .. and back -/
theorem Rep.unlend (r : Rep T K G ρ σ H) (hi : ρ[i]? = some (.rg A R)) (by_ : ByE i ρ) (r' : Rep T K ⟨hide (outO A G.O) H, outO A G.O, outF A G.fl⟩ (ρ.set i (.rr R)) σ H') : Rep T K G ρ σ H' ∧ (∀ {v d}, Da K (hide (outO A G.O) H') v d → Da K (hide G.O H') v d) ∧ ExtN (hide G.O H) (hide G.O H') := by
  obtain ⟨h1, own, ne, hR⟩ := r.rgAt hi
  have il : i < ρ.length := (List.getElem?_eq_some_iff.mp hi).1
  have foot : ∀ a, A.has a → H' a = H a := fun a ha => by
    obtain ⟨o, ho, _, hn, _⟩ := hR.kind a ha
    have := r'.ext a o (by show hide (outO A G.O) H a = some o; rw [hide_out fun z => (mem_outO.mp z).2 ha]; exact ho) hn
    rw [ho]
    exact (hide_some this).2
  have e : ExtN (hide G.O H) (hide G.O H') := ext_hide fun b o hb h n => by
    have := r'.ext b o (by show hide (outO A G.O) H b = some o; rw [hide_out fun z => hb (mem_outO.mp z).1]; exact h) n
    exact (hide_some this).2
  have hR' : RgAt K (hide G.O H') H' A R := hR.ext e foot
  have back : ∀ {v d}, Da K (hide (outO A G.O) H') v d → Da K (hide G.O H') v d := fun {v d} x => da_off hR' (fun b hb => by
    by_cases z : A.has b
    · exact .inr z
    · exact .inl (mem_outO.mpr ⟨hb, z⟩)) x
  have backs : ∀ {vs ds}, DaAll K (hide (outO A G.O) H') vs ds → DaAll K (hide G.O H') vs ds := fun {vs ds} x => daAll_off hR' (fun b hb => by
    by_cases z : A.has b
    · exact .inr z
    · exact .inl (mem_outO.mpr ⟨hb, z⟩)) x
  have ow : ∀ {b}, Own T.dc (outO A G.O) b → Own T.dc G.O b := fun h => ⟨(mem_outO.mp h.1).1, h.2⟩
  refine ⟨⟨r.len, fun j s hj => ?_, r.sep, r'.tab, r.ext.trans e, fun a ha => ?_, fun q hq => ?_, fun a ha => ?_⟩, back, e⟩
  · by_cases z : i = j
    · subst z
      rw [hi] at hj
      cases hj
      exact ⟨_, h1, rfl, own, ne, hR'⟩
    · obtain ⟨v, g1, g2⟩ := r'.slot j s (by rw [List.getElem?_set_ne z]; exact hj)
      obtain ⟨v0, k1, k2⟩ := r.slot j s hj
      rw [g1] at k1
      cases k1
      have bj := by_ j s (Ne.symm z) hj
      refine ⟨v, g1, ?_⟩
      cases s with
      | un => trivial
      | sh d => obtain ⟨x, h3, h4⟩ := k2; exact ⟨x, h3, h4.ext e⟩
      | ol ds => obtain ⟨b, vs, h3, h4, h5, h6⟩ := g2; exact ⟨b, vs, h3, ow h4, h5, backs h6⟩
      | ok ds => obtain ⟨b, vs, h3, h4, h5, h6, h7⟩ := g2; exact ⟨b, vs, h3, ow h4, h5, h6, backs h7⟩
      | ot ds => obtain ⟨b, vs, h3, h4, h5, h6, h7⟩ := g2; exact ⟨b, vs, h3, ow h4, h5, h6, backs h7⟩
      | ln b _ => cases bj
      | on ds => cases bj
      | sn d => obtain ⟨x, h3, h4⟩ := k2; exact ⟨x, h3, h4.ext e⟩
      | sk d => obtain ⟨x, h3, h4⟩ := k2; exact ⟨x, h3, h4.ext e⟩
      | rr d => obtain ⟨x, h3, h4⟩ := k2; exact ⟨x, h3, h4.ext e⟩
      | rg _ _ => cases bj
      | dice => exact g2
      | scr ns => obtain ⟨b, h3, h4⟩ := k2; exact ⟨b, h3, sqL_ext e h4⟩
  · by_cases z : A.has a
    · rw [foot a z]; exact r.dom a ha
    · exact r'.dom a (mem_outO.mpr ⟨ha, z⟩)
  · by_cases z : A.has q.1
    · obtain ⟨g1, g2⟩ := r.fly q hq
      exact ⟨g1, (foot _ z).trans g2⟩
    · obtain ⟨g1, g2⟩ := r'.fly q (mem_outF.mpr ⟨hq, z⟩)
      exact ⟨(mem_outO.mp g1).1, g2⟩
  · exact ⟨(r.dcs a ha).1, (r'.dcs a ha).2.1, (r.dcs a ha).2.2⟩
theorem exR_lend {G : Gh} {x : Exn} {cls : Value} {dd : Option Addr} {O : List Addr} (h : ExR K x cls dd (hide O H')) {O' : List Addr} (hk : ∀ b o, hide O H' b = some o → Plain o → hide O' H' b = some o) (hd : ∀ {v d}, Da K (hide O H') v d → Da K (hide O' H') v d) : ExR K x cls dd (hide O' H') := by
  refine ⟨h.1, ?_⟩
  have h2 := h.2
  split at h2
  · exact h2
  · obtain ⟨a, v, h3, h4, h5⟩ := h2
    exact ⟨a, v, h3, hk _ _ h4 trivial, hd h5⟩
def wLend (i : Nat) (w : PW) : PW := fun ρ Q E => ∃ A R, ρ[i]? = some (.rg A R) ∧ ByE i ρ ∧ w (ρ.set i (.rr R)) Q E
def wLendB (i : Nat) (w : PWB) : PWB := fun ρ Q E => ∃ A R, ρ[i]? = some (.rg A R) ∧ ByE i ρ ∧ w (ρ.set i (.rr R)) Q E
theorem ex_lend (r : Rep T K G ρ σ H) (hi : ρ[i]? = some (.rg A R)) (by_ : ByE i ρ) {x : Exn} (hx : exOut T K W G ρ σ x) : exOut T K W ⟨hide (outO A G.O) H, outO A G.O, outF A G.fl⟩ (ρ.set i (.rr R)) σ x := fun H' cls dd r' q => by
  obtain ⟨r2, back, e⟩ := r.unlend hi by_ r'
  obtain ⟨_, own, _, hR⟩ := r2.rgAt hi
  refine hx H' cls dd r2 (exR_lend (G := G) q (fun b o hb po => ?_) back)
  obtain ⟨g1, g2⟩ := hide_some hb
  rw [hide_out fun z => g1 (mem_outO.mpr ⟨z, fun z' => hR.ne g2 po b z' rfl⟩)]
  exact g2
theorem de_lend {w : PW} (h : DE T X W e w) : DE T X W e (wLend i w) := ⟨pe_mono h.pe fun σ H Q q => by
  obtain ⟨G, ρ, r, A, R, hi, by_, q⟩ := q
  exact ⟨_, _, r.lend hi by_, h.mono _ _ _ _ _ (fun d hd v H' r' a => by
    obtain ⟨r2, back, _⟩ := r.unlend hi by_ r'
    exact hd v H' r2 (back a)) (fun x hx => ex_lend r hi by_ hx) q⟩, fun ρ Q Q' E E' hq he ⟨A, R, h1, h2, h3⟩ => ⟨A, R, h1, h2, h.mono _ _ _ _ _ hq he h3⟩⟩
theorem dt_lend {w : PWB} (h : DT T X W e w) : DT T X W e (wLendB i w) := ⟨pt_mono h.pt fun σ H Q q => by
  obtain ⟨G, ρ, r, A, R, hi, by_, q⟩ := q
  exact ⟨_, _, r.lend hi by_, h.mono _ _ _ _ _ (fun d hd H' r' => hd H' (r.unlend hi by_ r').1) (fun x hx => ex_lend r hi by_ hx) q⟩, fun ρ Q Q' E E' hq he ⟨A, R, h1, h2, h3⟩ => ⟨A, R, h1, h2, h.mono _ _ _ _ _ hq he h3⟩⟩
end
end PL
set_option Elab.async false
set_option linter.all false
set_option maxRecDepth 100000
set_option maxHeartbeats 2000000
namespace PL
open PySem PySem.Spec PyProof.Rows L2
open LamX (ExtN Tabs TabS)
open Classical in
noncomputable def newO (A A' : RA) (O : List Addr) : List Addr := outO A O ++ [A'.b, A'.t, A'.d, A'.u]
open Classical in
theorem mem_newO {A A' : RA} {O : List Addr} {a : Addr} : a ∈ newO A A' O ↔ (a ∈ O ∧ ¬ A.has a) ∨ A'.has a := by
  unfold newO
  rw [List.mem_append, mem_outO]
  simp only [List.mem_cons, List.not_mem_nil, or_false, RA.has]
section
variable {T : Tb} {X : Cx} {W : WX} {pos p p2 p3 pos' pos2 apos cpos : Pos} {e a b c o : Expr} {es : List Expr} {st : Stmt} {K : PySem.W.Frag} {G : Gh} {ρ ρ2 : En} {σ σ2 : L2.St} {H H' : Hp} {C : Addr} {A A' : RA} {R R' : Reg} {i : Nat} {D : Ends}
theorem Rep.regive (r : Rep T K G ρ σ H) (fa : FlApt G.fl ρ σ) (hi : ρ[i]? = some (.rg A R)) (by_ : ByE i ρ) (e : ∀ a o, H a = some o → ¬ A.has a → a ∉ T.dc → (∀ ps, o ≠ .tbl ps) → H' a = some o)
    (hd : ∀ a ∈ T.dc, ∃ x y z, H' a = some (.lst [.int x, .int y, .int z])) (t : TOk T H') (eb : A'.b = A.b) (ne : A'.apart) (own : ∀ a, A'.has a → a ∉ T.dc ∧ (A.has a ∨ (a ∉ G.O ∧ ∀ o, H a = some o → ∃ ps, o = .tbl ps)))
    (hR : RgAt K (hide (newO A A' G.O) H') H' A' R') : Rep T K ⟨G.Hb, newO A A' G.O, G.fl⟩ (ρ.set i (.rg A' R')) σ H' ∧ FlApt G.fl (ρ.set i (.rg A' R')) σ := by
  obtain ⟨h1, own0, ne0, hR0⟩ := r.rgAt hi
  have il : i < ρ.length := (List.getElem?_eq_some_iff.mp hi).1
  have e0 : ExtN (hide G.O H) (hide (newO A A' G.O) H') := fun b o hb n => by
    obtain ⟨g1, g2⟩ := hide_some hb
    have na : ¬ A.has b := fun z => g1 (own0 b z).1
    rw [hide_out fun z => ?_]
    · exact e b o g2 na (fun z => g1 (r.dcs b z).1) n
    · rcases mem_newO.mp z with z | z
      · exact g1 z.1
      · rcases (own b z).2 with z | ⟨_, z⟩
        · exact na z
        · obtain ⟨ps, z⟩ := z o g2
          exact n ps z
  have kp : ∀ b ∈ G.O, ¬ A.has b → b ∉ T.dc → H' b = H b := fun b hb na nd => by
    obtain ⟨o, ho, n⟩ := r.dom b hb
    rw [ho]
    exact e b o ho na nd n
  have own1 : ∀ {l : Nat} {u : Sl}, (ρ.set i (.rg A' R'))[l]? = some u → u.owned = true → ∃ u', ρ[l]? = some u' ∧ u'.owned = true := fun {l u} hl hu => by
    by_cases z : i = l
    · subst z; exact ⟨_, hi, rfl⟩
    · rw [List.getElem?_set_ne z] at hl; exact ⟨u, hl, hu⟩
  have flOut : ∀ q ∈ G.fl, q.1 ∈ G.O ∧ ¬ A.has q.1 ∧ q.1 ∉ T.dc := fun q hq => ⟨(r.fly q hq).1, (fa q hq i _ hi rfl).2, fun z => (r.dcs _ z).2.2 q hq rfl⟩
  refine ⟨⟨by rw [List.length_set]; exact r.len, fun j s hj => ?_, fun j k s t a hjk hj hk hs ht e1 e2 => ?_, t, r.ext.trans e0, fun a ha => ?_, fun q hq => ?_, fun a ha => ?_⟩, fun q hq j s hj hs => ?_⟩
  · by_cases z : i = j
    · subst z
      rw [List.getElem?_set_self il] at hj
      cases hj
      exact ⟨_, h1, by rw [eb], fun a ha => ⟨mem_newO.mpr (.inr ha), (own a ha).1⟩, ne, hR⟩
    · rw [List.getElem?_set_ne z] at hj
      obtain ⟨v, g1, g2⟩ := r.slot j s hj
      have bj := by_ j s (Ne.symm z) hj
      have mem : ∀ b, s.owned = true → v = some (.ref b) → Own T.dc G.O b → Own T.dc (newO A A' G.O) b ∧ H' b = H b := fun b ho ev hb => by
        have na := by_ne (T := T) (G := G) bj ho g2 ev hR0
        exact ⟨⟨mem_newO.mpr (.inl ⟨hb.1, na⟩), hb.2⟩, kp b hb.1 na hb.2⟩
      refine ⟨v, g1, ?_⟩
      cases s with
      | un => trivial
      | sh d => obtain ⟨x, h3, h4⟩ := g2; exact ⟨x, h3, h4.ext e0⟩
      | ol ds => obtain ⟨b, vs, h3, h4, h5, h6⟩ := g2; exact ⟨b, vs, h3, (mem b rfl h3 h4).1, (mem b rfl h3 h4).2.trans h5, h6.ext e0⟩
      | ok ds => obtain ⟨b, vs, h3, h4, h5, h6, h7⟩ := g2; exact ⟨b, vs, h3, (mem b rfl h3 h4).1, (mem b rfl h3 h4).2.trans h5, h6, h7.ext e0⟩
      | ot ds => obtain ⟨b, vs, h3, h4, h5, h6, h7⟩ := g2; exact ⟨b, vs, h3, (mem b rfl h3 h4).1, (mem b rfl h3 h4).2.trans h5, h6, h7.ext e0⟩
      | ln b _ => cases bj
      | on ds => cases bj
      | sn d => obtain ⟨x, h3, h4⟩ := g2; exact ⟨x, h3, h4.ext e0⟩
      | sk d => obtain ⟨x, h3, h4⟩ := g2; exact ⟨x, h3, h4.ext e0⟩
      | rr d => obtain ⟨x, h3, h4⟩ := g2; exact ⟨x, h3, h4.ext e0⟩
      | rg _ _ => cases bj
      | dice => exact g2
      | scr ns => obtain ⟨b, h3, h4⟩ := g2; exact ⟨b, h3, sqL_ext e0 h4⟩
  · obtain ⟨s', hj', hs'⟩ := own1 hj hs
    obtain ⟨t', hk', ht'⟩ := own1 hk ht
    exact r.sep j k s' t' a hjk hj' hk' hs' ht' e1 e2
  · rcases mem_newO.mp ha with ⟨z1, z2⟩ | z
    · by_cases y : a ∈ T.dc
      · obtain ⟨x, y, z, h⟩ := hd a y
        exact ⟨_, h, nt_of rfl⟩
      · rw [kp a z1 z2 y]; exact r.dom a z1
    · obtain ⟨o, ho, _, n, _⟩ := hR.kind a z
      exact ⟨o, ho, n⟩
  · obtain ⟨g1, g2, g3⟩ := flOut q hq
    exact ⟨mem_newO.mpr (.inl ⟨g1, g2⟩), (kp _ g1 g2 g3).trans (r.fly q hq).2⟩
  · exact ⟨mem_newO.mpr (.inl ⟨(r.dcs a ha).1, fun z => (own0 a z).2 ha⟩), hd a ha, (r.dcs a ha).2.2⟩
  · obtain ⟨g1, g2, g3⟩ := flOut q hq
    obtain ⟨s', hj', hs'⟩ := own1 hj hs
    refine ⟨(fa q hq j s' hj' hs').1, away_set (fun hj => (fa q hq j s hj hs).2) (s := .rg A' R') (fun z => ?_) hj⟩
    rcases (own _ z).2 with z | ⟨z, _⟩
    · exact g2 z
    · exact z g1
def RelX (X : Cx) (σ : L2.St) (H : Hp) (P : Hp → Prop) : Prop := ∀ pins s, Inv X pins σ H s → ∃ H2, Inv X pins σ H2 s ∧ P H2
theorem ps_rel {t : TS} (h : PS X st t) : PS X st (fun D σ H => RelX X σ H fun H2 => t { D with nx := fun σ' H3 => RelX X σ' H3 (D.nx σ') } σ H2) := ⟨fun pins s σ H D I q => by
  obtain ⟨H2, I2, q2⟩ := q pins s I
  refine thn (h.run pins s σ H2 _ I2 q2) fun f s' hf => ?_
  match f, hf with
  | .next, ⟨σ', H3, I3, q3⟩ =>
    obtain ⟨H4, I4, q4⟩ := q3 pins s' I3
    exact ⟨σ', H4, I4, q4⟩
  | .brk, hf => exact hf
  | .cont, hf => exact hf
  | .ret u, hf => exact hf⟩
theorem pe_rel {t : TE} (h : PE X e t) : PE X e (fun σ H Q => RelX X σ H fun H2 => t σ H2 fun v H3 => RelX X σ H3 (Q v)) := ⟨fun pins s σ H Q I q => by
  obtain ⟨H2, I2, q2⟩ := q pins s I
  exact thn (h.run pins s σ H2 _ I2 q2) fun u s' ⟨v, H3, I3, r, q3⟩ => by
    obtain ⟨H4, I4, q4⟩ := q3 pins s' I3
    exact ⟨v, H4, I4, r, q4⟩⟩
section
variable {P : Hp → Prop} {ad : Addr}
theorem rel_dT {ts : List TEn} (h : H ad = some (RT ad ts)) (k : ∀ p ∈ ts, H p.2.1 = some (.tup (p.1.map V.int))) (q : P (upd H ad (.dT (dtOf ts)))) : RelX X σ H P := fun pins s I =>
  ⟨_, relab I h trivial (rt_dT (I.hok _ _ h) fun p hp => by rw [upd_ne fun z => by have := k p hp; rw [z, h] at this; cases this]; exact k p hp), q⟩
theorem rel_RT {kvs : List (List Int × V)} (h : H ad = some (.dT (kvs.map fun p => (ik p.1, p.2)))) (q : ∀ ts : List TEn, ts.map (fun p => (p.1, p.2.2)) = kvs → (∀ p ∈ ts, H p.2.1 = some (.tup (p.1.map V.int))) → P (upd H ad (RT ad ts))) : RelX X σ H P := fun pins s I => by
  obtain ⟨ts, e1, e2, e3⟩ := dT_rt (show ObjOk X.prog X.w H s.heap ad (.dT (kvs.map fun p => (ik p.1, p.2))) from I.hok _ _ h)
  exact ⟨_, relab I h trivial (e3 _), q ts e1 e2⟩
theorem rel_lst {vs : List V} (h : H ad = some (RL ad vs)) (q : P (upd H ad (.lst vs))) : RelX X σ H P := fun pins s I => ⟨_, relab I h trivial (rl_lst (I.hok _ _ h)), q⟩
theorem rel_RL {vs : List V} (h : H ad = some (.lst vs)) (q : P (upd H ad (RL ad vs))) : RelX X σ H P := fun pins s I => ⟨_, relab I h trivial (rl_ok (I.hok _ _ h)), q⟩
end
theorem putK_ik (ts : List TEn) (k : List Int) (v : V) : putK (dtOf ts) (ik k) v = (putK (ts.map fun p => (p.1, p.2.2)) k v).map fun p => (ik p.1, p.2) := by
  unfold putK dtOf
  have e1 : ∀ p : TEn, decide (ik p.1 = ik k) = decide (p.1 = k) := fun p => by
    by_cases z : p.1 = k
    · simp [z]
    · rw [decide_eq_false z, decide_eq_false fun y => z (ik_inj _ _ y)]
  have e2 : ((ts.map fun p => (ik p.1, p.2.2)).any fun kv => decide (kv.1 = ik k)) = ((ts.map fun p => (p.1, p.2.2)).any fun kv => decide (kv.1 = k)) := by
    rw [List.any_map, List.any_map]
    congr 1
    funext p
    exact e1 p
  rw [e2]
  split
  · rw [List.map_map, List.map_map, List.map_map]
    refine List.map_congr_left fun p _ => ?_
    show (if ik p.1 = ik k then (ik p.1, v) else (ik p.1, p.2.2)) = _
    show _ = (fun q : List Int × V => (ik q.1, q.2)) (if p.1 = k then (p.1, v) else (p.1, p.2.2))
    by_cases z : p.1 = k
    · rw [if_pos z, if_pos (by rw [z])]
    · rw [if_neg z, if_neg fun y => z (ik_inj _ _ y)]
  · rw [List.map_append, List.map_map]
    rfl
/-- all but the parts of the register -/
theorem upd_keep {ad : Addr} {u : HO} (hA : A.has ad) : ∀ a o, H a = some o → ¬ A.has a → a ∉ T.dc → (∀ ps, o ≠ .tbl ps) → upd H ad u a = some o := fun a o h na _ _ => by
  rw [upd_ne fun z => na (by rw [z]; exact hA)]
  exact h
end
end PL
set_option Elab.async false
set_option linter.all false
set_option maxRecDepth 100000
set_option maxHeartbeats 2000000
namespace PL
open PySem PySem.Spec PyProof.Rows L2
open LamX (ExtN Tabs TabS)
theorem ext_code {φ : Heap → Prop} {a c : Addr} {q : Str} (hφ : ∀ h, φ h → ∃ ob, h.get? a = some ob ∧ ∀ vs, ob.data ≠ .fields vs) : HO.ext φ ≠ LamX.CodeO c q := fun z => by
  have e : φ = fun h => ∃ (oc : Obj) (vs : Array Value) (t : Tok), h.get? c = some oc ∧ oc.data = .fields vs ∧ vs[1]? = some (.str q t) := HO.ext.inj z
  have key : ∀ n : Nat, ∃ g : Heap, g.objs.size = n ∧ ∀ b ob, g.get? b = some ob → ∃ vs, ob.data = .fields vs := fun n => by
    induction n with
    | zero => exact ⟨{ objs := #[] }, rfl, fun b ob e => absurd (Heap.lt_size e) (Nat.not_lt_zero _)⟩
    | succ n ih =>
      obtain ⟨g, e1, e2⟩ := ih
      refine ⟨g.push { cls := .none, data := .fields #[] }, by rw [Heap.size_push, e1], fun b ob e => ?_⟩
      by_cases hb : b = g.objs.size
      · subst hb
        rw [Heap.get?_push_size _ rfl] at e
        cases e
        exact ⟨_, rfl⟩
      · exact e2 b ob (by rwa [Heap.get?_push_ne g b _ hb] at e)
  obtain ⟨g, e1, e2⟩ := key c
  have g1 : (g.push { cls := .none, data := .fields #[.none, .str q 0] }).get? c = some { cls := .none, data := .fields #[.none, .str q 0] } := by rw [← e1]; exact Heap.get?_push_size _ rfl
  have h4 : ∃ (oc : Obj) (vs : Array Value) (t : Tok), (g.push { cls := .none, data := .fields #[.none, .str q 0] }).get? c = some oc ∧ oc.data = .fields vs ∧ vs[1]? = some (.str q t) := ⟨_, _, 0, g1, rfl, rfl⟩
  rw [← congrFun e (g.push { cls := .none, data := .fields #[.none, .str q 0] })] at h4
  obtain ⟨ob, ho, hd⟩ := hφ _ h4
  by_cases ha : a = g.objs.size
  · subst ha
    rw [Heap.get?_push_size _ rfl] at ho
    cases ho
    exact hd _ rfl
  · obtain ⟨vs, e5⟩ := e2 a ob (by rwa [Heap.get?_push_ne g a _ ha] at ho)
    exact hd _ e5
theorem rl_code {a c : Addr} {q : Str} {vs : List V} : RL a vs ≠ LamX.CodeO c q := ext_code (a := a) fun h ⟨_, its, n, _, e⟩ => ⟨_, e, fun vs z => by cases z⟩
theorem rt_code {a c : Addr} {q : Str} {ts : List TEn} : RT a ts ≠ LamX.CodeO c q := ext_code (a := a) fun h ⟨_, _, ys, _, o, es, ep, e, _, d, _⟩ => ⟨_, e, fun vs z => by rw [d] at z; cases z⟩
section
variable {T : Tb} {X : Cx} {W : WX} {pos p p2 p3 pos' pos2 apos cpos : Pos} {e a b c o : Expr} {es : List Expr} {st : Stmt} {K : PySem.W.Frag} {G : Gh} {ρ ρ2 : En} {σ σ2 : L2.St} {H H' : Hp} {C : Addr} {A A' : RA} {R R' : Reg} {i : Nat} {D : Ends}
theorem TOk.rl {ad : Addr} {vs : List V} {u : HO} (t : TOk T H) (h : H ad = some (RL ad vs)) : TOk T (L2.upd H ad u) := t.put h (fun _ z => by cases z) (fun _ z => by cases z) fun _ z => rl_code z
theorem TOk.rt {ad : Addr} {ts : List TEn} {u : HO} (t : TOk T H) (h : H ad = some (RT ad ts)) : TOk T (L2.upd H ad u) := t.put h (fun _ z => by cases z) (fun _ z => by cases z) fun _ z => rt_code z
theorem TOk.ins {ad C dx : Addr} {fs : List (Str × V)} {u : HO} (t : TOk T H) (h : H ad = some (.ins C dx fs)) : TOk T (L2.upd H ad u) := t.put h (fun _ z => by cases z) (fun _ z => by cases z) fun _ z => by unfold LamX.CodeO at z; cases z
theorem newO_self (own : RgOwn T.dc G.O A) {b : Addr} : b ∈ newO A A G.O ↔ b ∈ G.O := by
  rw [mem_newO]
  constructor
  · rintro (z | z)
    · exact z.1
    · exact (own b z).1
  · intro z
    by_cases y : A.has b
    · exact .inr y
    · exact .inl ⟨z, y⟩
theorem hide_newO (own : RgOwn T.dc G.O A) (H : Hp) : hide (newO A A G.O) H = hide G.O H := by
  funext b
  unfold hide
  by_cases z : b ∈ G.O
  · rw [if_pos z, if_pos ((newO_self own).mpr z)]
  · rw [if_neg z, if_neg fun y => z ((newO_self own).mp y)]
/-- one part is written -/
theorem Rep.part (r : Rep T K G ρ σ H) (fa : FlApt G.fl ρ σ) (hi : ρ[i]? = some (.rg A R)) (by_ : ByE i ρ) {ad : Addr} {u : HO} (ha : A.has ad) (t : TOk T (upd H ad u)) (hR : RgAt K (hide G.O H) (upd H ad u) A R') :
    Rep T K ⟨G.Hb, newO A A G.O, G.fl⟩ (ρ.set i (.rg A R')) σ (upd H ad u) ∧ FlApt G.fl (ρ.set i (.rg A R')) σ := by
  obtain ⟨h1, own, ne, hR0⟩ := r.rgAt hi
  refine r.regive fa hi by_ (upd_keep ha) (fun b hb => ?_) t rfl ne (fun b hb => ⟨(own b hb).2, .inl hb⟩) ?_
  · rw [upd_ne fun z => (own _ ha).2 (by rw [← z]; exact hb)]
    exact (r.dcs b hb).2.1
  · rw [hide_newO own, hide_upd (own _ ha).1]
    exact hR
def sThPut (i j l : Nat) : SW := fun ρ D => ∃ A R d k x, ρ[i]? = some (.rg A R) ∧ ByE i ρ ∧ ρ[j]? = some (.sh d) ∧ keyTn d = some (ik k) ∧ ρ[l]? = some (.sh x) ∧ R.things.length < sizeLine ∧ D.nx (ρ.set i (.rg A { R with things := putD R.things k x }))
theorem RgAt.parts {B : Hp} (h : RgAt K B H A R) : A.b ≠ A.t ∧ A.b ≠ A.d ∧ A.b ≠ A.u := by
  obtain ⟨⟨C, dx, r, h1, h2, h3⟩, ⟨ts, h4, _⟩, ⟨vs, h8, h9⟩, ⟨us, h10, h11⟩⟩ := h
  exact ⟨fun z => (by rw [z, h4] at h2; cases h2), fun z => (by rw [z, h8] at h2; cases h2), fun z => (by rw [z, h10] at h2; cases h2)⟩
theorem RgAt.setT {B : Hp} (h : RgAt K B H A R) (ap : A.apart) {ts : List TEn} {kvs : List (List Int × PyData)} (h1 : ts.map (·.1) = kvs.map (·.1)) (h2 : ∀ p ∈ ts, B p.2.1 = some (.tup (p.1.map V.int))) (h3 : DaAll K B (ts.map (·.2.2)) (kvs.map (·.2))) : RgAt K B (upd H A.t (RT A.t ts)) A { R with things := kvs } := by
  obtain ⟨n1, n2, n3⟩ := h.parts
  obtain ⟨⟨C, dx, r, g1, g2, g3⟩, _, ⟨vs, g8, g9⟩, ⟨us, g10, g11⟩⟩ := h
  exact ⟨⟨C, dx, r, g1, by rw [upd_ne n1]; exact g2, g3⟩, ⟨ts, upd_same, h1, h2, h3⟩, ⟨vs, by rw [upd_ne (Ne.symm ap.2.1)]; exact g8, g9⟩, ⟨us, by rw [upd_ne (Ne.symm ap.2.2)]; exact g10, g11⟩⟩
def LF.set : LF → Reg → List (List PyData × List PyData) → Reg
  | .deeds, R, l => { R with deeds := l }
  | .undone, R, l => { R with undone := l }
theorem RgAt.setL {B : Hp} (f : LF) (h : RgAt K B H A R) (ap : A.apart) {vs : List V} {l : List (List PyData × List PyData)} (h1 : DaAll K B vs (l.map deD)) : RgAt K B (upd H (f.ad A) (RL (f.ad A) vs)) A (f.set R l) := by
  obtain ⟨n1, n2, n3⟩ := h.parts
  obtain ⟨⟨C, dx, r, g1, g2, g3⟩, ⟨ts, g4, g5⟩, ⟨us, g8, g9⟩, ⟨ws, g10, g11⟩⟩ := h
  cases f with
  | deeds => exact ⟨⟨C, dx, r, g1, by rw [show LF.deeds.ad A = A.d from rfl, upd_ne n2]; exact g2, g3⟩, ⟨ts, by rw [show LF.deeds.ad A = A.d from rfl, upd_ne ap.2.1]; exact g4, g5⟩, ⟨vs, upd_same, h1⟩, ⟨ws, by rw [show LF.deeds.ad A = A.d from rfl, upd_ne (Ne.symm ap.1)]; exact g10, g11⟩⟩
  | undone => exact ⟨⟨C, dx, r, g1, by rw [show LF.undone.ad A = A.u from rfl, upd_ne n3]; exact g2, g3⟩, ⟨ts, by rw [show LF.undone.ad A = A.u from rfl, upd_ne ap.2.2]; exact g4, g5⟩, ⟨us, by rw [show LF.undone.ad A = A.u from rfl, upd_ne ap.1]; exact g8, g9⟩, ⟨vs, upd_same, h1⟩⟩
theorem LF.has (f : LF) : A.has (f.ad A) := by cases f; exact .inr (.inr (.inl rfl)); exact .inr (.inr (.inr rfl))
theorem ds_thput {i j l k : Nat} (RC : RgC X.K C) (hr : Room k X.A) (ho : PE X o (tVar i)) (hb : attributeBase o "things" X.env (eval o X.env) = eval o X.env) (hk : PE X a (tVar j)) (hv : PE X b (tVar l)) (hs : swapsWith b (some (.Subscript (.Attribute o "things" p2) a pos')) pos.line X.env = pure false) :
    DS T X W (.Assign [.Subscript (.Attribute o "things" p2) a pos'] b pos) (sThPut i j l) :=
  ⟨ps_mono (ps_rel (ps_dput (hu_of hr) (pe_fld ho hb) hk hv hs)) fun D σ H q => by
    obtain ⟨G, ρ, r, fa, A, R, d, k, x, hi, by_, hj, hk, hl, hz, q⟩ := q
    obtain ⟨h1, own, ap, hR⟩ := r.rgAt hi
    obtain ⟨v, h2, y, rfl, h3⟩ := r.slot j _ hj
    obtain ⟨kb, rfl, h4⟩ := keyT_da h3 hk
    obtain ⟨v2, h5, z, rfl, h6⟩ := r.slot l _ hl
    obtain ⟨dx, r', g1, _⟩ := hR.insC RC
    obtain ⟨ts, g2, g3, g4, g5⟩ := hR.thg
    have lt : ts.length = R.things.length := by have := congrArg List.length g3; rwa [List.length_map, List.length_map] at this
    refine rel_dT g2 (fun p hp => (hide_some (g4 p hp)).2) ⟨_, h5, _, h1, A.b, C, dx, _, .ref A.t, rfl, by rw [upd_ne hR.parts.1]; exact g1, RC.cl, RC.n2, rfl, _, h2, A.t, _, rfl, .inr ⟨_, ik k, kb, upd_same, rfl, ?_, ?_, rfl⟩, ?_⟩
    · have e := (hide_some h4).2
      rw [upd_ne fun y => by rw [y, g2] at e; cases e]
      exact e
    · unfold dtOf; rw [List.length_map, lt]; exact hz
    · rw [upd_upd, putK_ik]
      refine rel_RT upd_same fun ts' e1 e2 => ?_
      rw [upd_upd]
      obtain ⟨p1, p2⟩ := put_da (k := k) h6 (vs := ts.map fun p => (p.1, p.2.2)) (kvs := R.things) (by rw [List.map_map]; exact g3) (by rw [List.map_map]; exact g5)
      rw [← e1, List.map_map] at p1 p2
      have key : ∀ p ∈ ts', hide G.O H p.2.1 = some (.tup (p.1.map V.int)) := fun p hp => by
        have e := e2 p hp
        have ne : p.2.1 ≠ A.t := fun y => by rw [y, upd_same] at e; cases e
        rw [upd_ne ne] at e
        rw [hide_out fun y => ?_]
        · exact e
        · obtain ⟨o, ho, n⟩ := r.dom _ y
          rw [e] at ho
          cases ho
          exact n.tp _ rfl
      obtain ⟨r2, fa2⟩ := r.part fa hi by_ (.inr (.inl rfl)) (r.tab.rt g2) (hR.setT ap p1 key p2)
      exact q σ _ _ r2 fa2, fun ρ D D' l ⟨A, R, d, k, x, h1, h2, h3, h4, h5, h6, h7⟩ => ⟨A, R, d, k, x, h1, h2, h3, h4, h5, h6, l.nx _ h7⟩⟩
theorem pe_apR {to : TE} {t : TA} {name : Str} (ho : PE X o to) (ha : PA X [e] t) (hbase : attributeBase o "append" X.env (eval o X.env) = eval o X.env := by rfl)
    (hfew : ((backTo cpos (starEach [e] X.env)).all (fun x => !x.1) && (backToKw cpos (keywordEach [] X.env)).all (fun x => x.1.isSome)
      && decide (([e]).length + ([] : List Keyword).length + (if ([] : List Keyword).isEmpty then 0 else 1) < 30)) = true := by rfl)
    (hline : (apos.endLine == cpos.line) = true := by rfl) (hs : starEach [e] X.env = (false, eval e X.env) :: starEach [] X.env := by rfl) :
    PE X (.Call (.Attribute o "append" apos) [e] [] cpos) (fun σ H Q => to σ H fun x H1 => (∃ a vs, x = .ref a ∧ H1 a = some (RL a vs)) ∧ t σ H1 fun ys H2 => ∃ a vs y, x = .ref a ∧ ys = [y] ∧ H2 a = some (RL a vs) ∧ vs.length < sizeLine ∧ Q .non (upd H2 a (RL a (vs ++ [y])))) := by
  refine ⟨fun pins s σ H Q I h => ?_⟩
  refine wpAny_Call_method_late hbase hfew hline rfl (thn (ho.run pins s σ H _ I h) fun v s1 ⟨x, H1, I1, r1, ⟨a, vs, ex, ha1⟩, q1⟩ => ?_)
  subst ex
  obtain rfl : v = Value.ref a := r1
  obtain ⟨⟨_, its, n, _, e1⟩, _⟩ := (show ObjOk X.prog X.w H1 s1.heap a (RL a vs) from I1.hok _ _ ha1)
  refine ⟨"list", "list.append", PySem.F.plainAttrs_list, PySem.F.slot_list_append, PySem.F.type_list_append, ⟨_, e1, rfl⟩, fun b eb => by cases eb; exact ⟨_, e1, rfl⟩, ?_⟩
  have hA := ha.run cpos pins s1 σ H1 _ I1 q1
  rw [hs] at hA ⊢
  refine Calls.callWith_builtin rfl (Calls.evalArgs_plain ?_)
  refine thn hA fun us s2 ⟨ys, H2, I2, r2, a', vs', y, ea, ey, h2, hz, q2⟩ => ?_
  cases ea
  subst ey
  have I3 := relab I2 h2 trivial (rl_lst (H' := upd H2 a (.lst vs')) (I2.hok _ _ h2))
  refine thn (mt_append pins s2 σ _ (.ref a) [y] (.ref a) us (fun v H4 => ∃ H5, (∀ s', Inv X pins σ H4 s' → Inv X pins σ H5 s') ∧ Q v H5) I3 rfl r2 ⟨a, vs', y, rfl, rfl, upd_same, hz, upd H2 a (RL a (vs' ++ [y])), fun s' I4 => ?_, q2⟩) fun u s3 ⟨v, H4, I4, r4, H5, f, q5⟩ => ⟨v, H5, f s3 I4, r4, q5⟩
  have := relab (u := RL a (vs' ++ [y])) I4 (a := a) (o := .lst (vs' ++ [y])) upd_same trivial (rl_ok (show ObjOk X.prog X.w _ s'.heap a (.lst (vs' ++ [y])) from (I4.hok a _ upd_same)))
  rwa [upd_upd, upd_upd] at this
def sLApp (f : LF) (i : Nat) (w : PW) : SW := fun ρ D => ∃ A R, ρ[i]? = some (.rg A R) ∧ ByE i ρ ∧ w ρ (fun d => ∃ p, d = deD p ∧ (f.of R).length < sizeLine ∧ D.nx (ρ.set i (.rg A (f.set R (f.of R ++ [p]))))) (fun _ => False)
theorem ds_lapp {i : Nat} {w : PW} (f : LF) (RC : RgC X.K C) (ho : PE X o (tVar i)) (hb : attributeBase o f.nm X.env (eval o X.env) = eval o X.env) (h : DE T X W e w) (hs0 : swapsWith (.Call (.Attribute (.Attribute o f.nm p2) "append" apos) [e] [] pos) none pos'.line X.env = pure false := by rfl)
    (hbase : attributeBase (.Attribute o f.nm p2) "append" X.env (eval (.Attribute o f.nm p2) X.env) = eval (.Attribute o f.nm p2) X.env := by rfl)
    (hfew : ((backTo pos (starEach [e] X.env)).all (fun x => !x.1) && (backToKw pos (keywordEach [] X.env)).all (fun x => x.1.isSome)
      && decide (([e]).length + ([] : List Keyword).length + (if ([] : List Keyword).isEmpty then 0 else 1) < 30)) = true := by rfl)
    (hline : (apos.endLine == pos.line) = true := by rfl) (hs : starEach [e] X.env = (false, eval e X.env) :: starEach [] X.env := by rfl) :
    DS T X W (.Expr (.Call (.Attribute (.Attribute o f.nm p2) "append" apos) [e] [] pos) pos') (sLApp f i w) :=
  ⟨ps_mono (ps_expr (pe_apR (name := f.nm) (pe_fld ho hb) (pa_cons h.pe pa_nil hs) hbase hfew hline hs) hs0) fun D σ H q => by
    obtain ⟨G, ρ, r, fa, A, R, hi, by_, q⟩ := q
    obtain ⟨h1, own, ap, hR⟩ := r.rgAt hi
    obtain ⟨dx, r', g1, _⟩ := hR.insC RC
    obtain ⟨vs, g2, g3⟩ := f.at hR
    refine ⟨_, h1, A.b, C, dx, _, .ref (f.ad A), rfl, g1, RC.cl, f.no RC, f.look r' A, ⟨_, vs, rfl, g2⟩, ⟨G, ρ, r, h.mono _ _ _ _ _ (fun d hd v H' r2 a => ?_) (fun _ z => z.elim) q⟩⟩
    obtain ⟨p, rfl, hz, q⟩ := hd
    obtain ⟨h1', own', ap', hR'⟩ := r2.rgAt hi
    obtain ⟨vs', k2, k3⟩ := f.at hR'
    have lv : vs'.length = (f.of R).length := by have := k3.length; rwa [List.length_map] at this
    refine ⟨_, vs', v, rfl, rfl, k2, by rw [lv]; exact hz, ?_⟩
    obtain ⟨r3, fa3⟩ := r2.part fa hi by_ f.has (r2.tab.rl k2) (hR'.setL f ap' (l := f.of R ++ [p]) (by rw [List.map_append]; exact k3.append (.cons a .nil)))
    exact q σ _ _ r3 fa3, fun ρ D D' l ⟨A, R, h1, h2, h3⟩ => ⟨A, R, h1, h2, h.mono _ _ _ _ _ (fun d ⟨p, e1, e2, e3⟩ => ⟨p, e1, e2, l.nx _ e3⟩) (fun _ z => z) h3⟩⟩
def sLPop (f : LF) (m i : Nat) : SW := fun ρ D => ∃ A R p, ρ[i]? = some (.rg A R) ∧ ByE i ρ ∧ m ≠ i ∧ (f.of R)[(f.of R).length - 1]? = some p ∧ D.nx ((ρ.set i (.rg A (f.set R (f.of R).dropLast))).set m (.sh (deD p)))
theorem ds_lpop {i m : Nat} {x : Str} (f : LF) (RC : RgC X.K C) (hN : X.N.Nodup) (hm : X.N[m]? = some x) (hx : Loc X.env.scope x) (ho : PE X o (tVar i)) (hb : attributeBase o f.nm X.env (eval o X.env) = eval o X.env)
    (hs : swapsWith (.Call (.Attribute (.Attribute o f.nm p2) "pop" apos) [] [] cpos) (some (.Name x pos')) pos.line X.env = pure false := by rfl) (hbase : attributeBase (.Attribute o f.nm p2) "pop" X.env (eval (.Attribute o f.nm p2) X.env) = eval (.Attribute o f.nm p2) X.env := by rfl) (hline : (apos.endLine == cpos.line) = true := by rfl)
    (hf : X.fn x = true ∨ X.env.scope.names.lookup x = some .local := by first | exact .inl rfl | exact .inr rfl | assumption) : DS T X W (.Assign [.Name x pos'] (.Call (.Attribute (.Attribute o f.nm p2) "pop" apos) [] [] cpos) pos) (sLPop f m i) :=
  ⟨ps_mono (ps_set hN hm hx (pe_rel (pe_bm0 PySem.F.plainAttrs_list PySem.F.slot_list_pop PySem.F.type_list_pop mt_pop (pe_fld ho hb) hbase hline)) hs hf) fun D σ H q => by
    obtain ⟨G, ρ, r, fa, A, R, p, hi, by_, mi, hp, q⟩ := q
    obtain ⟨h1, own, ap, hR⟩ := r.rgAt hi
    obtain ⟨dx, r', g1, _⟩ := hR.insC RC
    obtain ⟨vs, g2, g3⟩ := f.at hR
    have lv : vs.length = (f.of R).length := by have := g3.length; rwa [List.length_map] at this
    obtain ⟨y, hy, dy⟩ := g3.getD (i := (f.of R).length - 1) (d := deD p) (by rw [List.getElem?_map, hp]; rfl)
    have nb : A.b ≠ f.ad A := by cases f; exact hR.parts.2.1; exact hR.parts.2.2
    refine rel_lst g2 ⟨_, h1, A.b, C, dx, _, .ref (f.ad A), rfl, by rw [upd_ne nb]; exact g1, RC.cl, f.no RC, f.look r' A, .inl ⟨rfl, _, SqL.of upd_same⟩, _, vs, y, rfl, rfl, upd_same, by rw [lv]; exact hy, ?_⟩
    rw [upd_upd]
    refine rel_RL upd_same ?_
    rw [upd_upd]
    obtain ⟨r3, fa3⟩ := r.part fa hi by_ f.has (r.tab.rl g2) (hR.setL f ap (l := (f.of R).dropLast) (by rw [List.map_dropLast]; exact g3.dropLast))
    refine q _ _ _ (r3.setSh (i := m) (d := deD p) ?_) fa3.setSh
    show Da X.K (hide (newO A A G.O) _) y (deD p)
    rw [hide_newO own, hide_upd (own _ f.has).1]
    exact dy, fun ρ D D' l ⟨A, R, p, h1, h2, h3, h4, h5⟩ => ⟨A, R, p, h1, h2, h3, h4, l.nx _ h5⟩⟩
end
end PL
set_option Elab.async false
set_option linter.all false
set_option maxRecDepth 100000
set_option maxHeartbeats 2000000
namespace PL
open PySem PySem.Spec PyProof.Rows L2
open LamX (ExtN Tabs TabS)
def PairI (K : PySem.W.Frag) (H : Hp) (vs : List V) (kvs : List (List Int × V)) : Prop := Paired (fun v kv => ∃ p q, v = V.ref p ∧ SqT K H p [.ref q, kv.2] ∧ H q = some (.tup (kv.1.map V.int))) vs kvs
section
variable {T : Tb} {X : Cx} {W : WX} {pos p p2 p3 pos' pos2 apos cpos : Pos} {e a b c o : Expr} {es : List Expr} {st : Stmt} {K : PySem.W.Frag} {G : Gh} {ρ ρ2 : En} {σ σ2 : L2.St} {H H' : Hp} {C : Addr} {A A' : RA} {R R' : Reg} {i : Nat} {D : Ends} {s : Shared} {pins : List (Addr × Obj)}
theorem pairI_of (I : Inv X pins σ H s) : ∀ {vs : List V} {kvs : List (List Int × V)}, PairI X.K H vs kvs → ∃ prs : List (Addr × List Int × Addr × Value), vs = prs.map (fun p => V.ref p.1) ∧
    Paired (fun (kv : List Int × V) (p : Addr × List Int × Addr × Value) => kv.1 = p.2.1 ∧ H p.2.2.1 = some (.tup (p.2.1.map V.int)) ∧ RelV kv.2 p.2.2.2) kvs prs ∧ ∀ p ∈ prs, IsTup s.heap p.1 #[.ref p.2.2.1, p.2.2.2]
  | _, _, .nil => ⟨[], rfl, .nil, fun _ h => by cases h⟩
  | _, _, .cons (b := kv) ⟨p, q, rfl, h1, h2⟩ t => by
    obtain ⟨prs, e1, e2, e3⟩ := pairI_of I t
    obtain ⟨its, rv, hi, _⟩ := I.tuple h1
    cases rv with
    | cons r1 r2 => cases r2 with
      | cons r3 r4 =>
        cases r4
        obtain rfl := r1
        refine ⟨(p, kv.1, q, _) :: prs, by rw [List.map_cons, e1], .cons ⟨rfl, h2, r3⟩ e2, fun p' hp => ?_⟩
        rcases List.mem_cons.mp hp with rfl | hp
        · exact hi
        · exact e3 p' hp
theorem stored_new {κ : Type} [DecidableEq κ] : ∀ (ps acc : List (κ × Addr × Value)), ((acc ++ ps).map (·.1)).Nodup → storedAllH acc ps = acc ++ ps
  | [], acc, _ => by unfold storedAllH; rw [List.append_nil]; rfl
  | p :: r, acc, h => by
    have e1 : storedAllH acc (p :: r) = storedAllH (storedH acc p.1 p.2.1 p.2.2) r := rfl
    have no : ∀ q ∈ acc, q.1 ≠ p.1 := fun q hq z => by
      rw [List.map_append, List.map_cons] at h
      exact (List.nodup_append.mp h).2.2 q.1 (List.mem_map.mpr ⟨q, hq, rfl⟩) p.1 List.mem_cons_self z
    have e2 : atKey acc p.1 = none := atKey_none_of_get fun j q z => no _ (List.mem_of_getElem? z) rfl
    rw [e1, storedH_new e2, stored_new r (acc ++ [(p.1, p.2.1, p.2.2)]) (by rwa [List.append_assoc]), List.append_assoc]
    rfl
theorem call_dictI {k : Nat} (hcalm : X.calm = true) (hr : Room k X.A) : CallR X (.type "dict") (fun xs H Q => ∃ (a : Addr) (ob : Obj) (vs : List V) (kvs : List (List Int × V)), xs = [.ref a] ∧ H a = some (.frz ob (.tup vs)) ∧ ob.dict = none ∧ PairI X.K H vs kvs ∧ (kvs.map (·.1)).Nodup ∧
    ∀ p, H p = none → Q (.ref p) (upd H p (.dT (kvs.map fun q => (ik q.1, q.2))))) := by
  intro pins s σ H xs us Q I r q
  obtain ⟨a, ob, vs, kvs, ex, hq, hob, hp, nd, q⟩ := q
  subst ex
  obtain ⟨u, eu, rx⟩ := vals1 r
  subst eu
  cases rx
  obtain ⟨h0, hz, its, rv, hi⟩ := (show ObjOk X.prog X.w H s.heap a (.frz ob (.tup vs)) from I.hok a _ hq)
  obtain ⟨prs, rfl, rel, htp⟩ := pairI_of I hp
  have ei : its = prs.map fun p => Value.ref p.1 := by
    have : ∀ (l : List (Addr × List Int × Addr × Value)) (us : List Value), Vals (l.map fun p => V.ref p.1) us → us = l.map fun p => Value.ref p.1 := fun l => by
      induction l with
      | nil => intro us h; cases h; rfl
      | cons x t ih => intro us h; cases h with
        | cons r1 r2 => rw [ih _ r2, List.map_cons]; congr 1
    exact this _ _ rv
  subst ei
  obtain ⟨o, ho, hc, n, hdat⟩ := hi
  rw [h0] at ho
  cases ho
  have hll : (prs.map fun p => ((Value.ref p.2.2.1, p.2.2.2) : Value × Value)).length = prs.length := List.length_map _
  have hpl : prs.length ≤ sizeLine := by rwa [List.length_map] at hz
  have lk : kvs.length = prs.length := Paired.length rel
  have ek : ∀ {kvs : List (List Int × V)} {prs : List (Addr × List Int × Addr × Value)}, Paired (fun (kv : List Int × V) (p : Addr × List Int × Addr × Value) => kv.1 = p.2.1 ∧ H p.2.2.1 = some (.tup (p.2.1.map V.int)) ∧ RelV kv.2 p.2.2.2) kvs prs → kvs.map (·.1) = prs.map (·.2.1) := fun {kvs prs} h => by
    induction h with
    | nil => rfl
    | cons h t ih => rw [List.map_cons, List.map_cons, h.1, ih]
  have kt : ∀ {kvs : List (List Int × V)} {prs : List (Addr × List Int × Addr × Value)}, Paired (fun (kv : List Int × V) (p : Addr × List Int × Addr × Value) => kv.1 = p.2.1 ∧ H p.2.2.1 = some (.tup (p.2.1.map V.int)) ∧ RelV kv.2 p.2.2.2) kvs prs → ∀ p ∈ prs, H p.2.2.1 = some (.tup (p.2.1.map V.int)) := fun {kvs prs} h => by
    induction h with
    | nil => exact fun p hp => by cases hp
    | cons h t ih =>
      intro p hp
      rcases List.mem_cons.mp hp with rfl | hp
      · exact h.2.1
      · exact ih p hp
  have ikv : ∀ k : List Int, (ik k).map kV = k.map V.int := fun k => by unfold ik; rw [List.map_map]; rfl
  have nps : ((prs.map fun p => (ik p.2.1, p.2.2.1, p.2.2.2)).map (·.1)).Nodup := by
    rw [List.map_map]
    rw [ek rel] at nd
    have : (prs.map ((fun x : List Key × Addr × Value => x.1) ∘ fun p : Addr × List Int × Addr × Value => (ik p.2.1, p.2.2.1, p.2.2.2))) = (prs.map (·.2.1)).map ik := by rw [List.map_map]; rfl
    rw [this]
    exact nd.map ik fun a b ne e => ne (ik_inj _ _ e)
  have his : ∀ x ∈ prs.map (fun p => (ik p.2.1, p.2.2.1, p.2.2.2)), (tupleKind (mixKind X.prog X.w)).is s.heap x.1 x.2.1 := fun x hx => by
    obtain ⟨p, hp, rfl⟩ := List.mem_map.mp hx
    exact key_of I.hok (by rw [ikv]; exact kt rel p hp)
  refine PySem.call_dict_pairsH (knd := tupleKind (mixKind X.prog X.w)) (ps := prs.map fun p => (ik p.2.1, p.2.2.1, p.2.2.2)) (PySem.PairArg.tuple a (prs.map fun p => Value.ref p.1).toArray (fun j => (prs[j]?.map (·.1)).getD 0) (prs.map fun p => (Value.ref p.2.2.1, p.2.2.2))) (I.ok.hd hcalm) ?_ ⟨⟨_, n, h0, hc, hob, hdat⟩, ?_, fun j k v e => ?_⟩ ⟨by rw [hll, List.length_map], fun i k v e => ?_⟩ (fun h' hk x hx => ?_) (by rw [hll]; exact hpl) fun h' tk hd' k => ?_
  · show X.A.units + 1 + 1 < cLine
    have := hr.un
    omega
  · rw [hll, List.size_toArray, List.length_map]
  · rw [List.getElem?_map] at e
    cases ep : prs[j]? with
    | none => rw [ep] at e; cases e
    | some p =>
      rw [ep] at e
      cases e
      have et : (prs[j]?.map (·.1)).getD 0 = p.1 := by rw [ep]; rfl
      refine ⟨?_, .inl ?_⟩
      · show _ = some (Value.ref ((prs[j]?.map (·.1)).getD 0))
        rw [et, List.getElem?_toArray, List.getElem?_map, ep]
        rfl
      · show IsTup s.heap ((prs[j]?.map (·.1)).getD 0) _
        rw [et]
        exact htp p (List.mem_of_getElem? ep)
  · have e : (prs.map fun p => ((Value.ref p.2.2.1, p.2.2.2) : Value × Value))[i]? = some (k, v) := e
    rw [List.getElem?_map] at e
    cases ep : prs[i]? with
    | none => rw [ep] at e; cases e
    | some p =>
      rw [ep] at e
      cases e
      exact ⟨ik p.2.1, p.2.2.1, by rw [List.getElem?_map, ep]; rfl, rfl⟩
  · exact tupleKind_stays.stays (fun b o _ _ e _ => hk b o (fun z => absurd (Heap.lt_size e) (by rw [z]; exact Nat.lt_irrefl _)) (fun z => nomatch z) e) (his x hx)
  · rw [stored_new _ [] (by rw [List.nil_append]; exact nps), List.nil_append] at hd'
    have hm : (s.heap.objs.size == sysModules) = false := beq_eq_false_iff_ne.mpr (Nat.ne_of_gt I.big)
    have hn := I.hok.fresh (Nat.le_refl s.heap.objs.size)
    obtain ⟨o, es, ep, g1, g2, g3, g4, g5, g6⟩ := hd'
    have pr : ∀ (o0 : HO) {kvs : List (List Int × V)} {prs : List (Addr × List Int × Addr × Value)}, Paired (fun (kv : List Int × V) (p : Addr × List Int × Addr × Value) => kv.1 = p.2.1 ∧ H p.2.2.1 = some (.tup (p.2.1.map V.int)) ∧ RelV kv.2 p.2.2.2) kvs prs →
        Paired (fun (p : List Key × V) (q : List Key × Addr × Value) => p.1 = q.1 ∧ upd H s.heap.objs.size o0 q.2.1 = some (.tup (p.1.map kV)) ∧ RelV p.2 q.2.2) (kvs.map fun q => (ik q.1, q.2)) (prs.map fun p => (ik p.2.1, p.2.2.1, p.2.2.2)) := fun o0 {kvs prs} h => by
      induction h with
      | nil => exact .nil
      | cons h t ih =>
        refine .cons ⟨congrArg ik h.1, ?_, h.2.2⟩ ih
        show upd H _ _ _ = some (.tup ((ik _).map kV))
        rw [ikv, upd_ne (ne_of_none h.2.1 hn), h.1]
        exact h.2.1
    exact ⟨.ref s.heap.objs.size, _, I.laid (t' := tk) (fun b u e => k b u (by simp) e) (Nat.le_refl _) (show ObjOk X.prog X.w _ _ _ (.dT (kvs.map fun q => (ik q.1, q.2))) from ⟨by rw [List.length_map, lk]; exact hpl, hm, _, pr _ rel, o, es, ep, g1, g2, g3, g4, g6⟩), rfl, q _ hn⟩
end
end PL
set_option Elab.async false
set_option linter.all false
set_option maxRecDepth 100000
set_option maxHeartbeats 2000000
namespace PL
open PySem PySem.Spec PyProof.Rows L2
open LamX (ExtN Tabs TabS)
section
variable {T : Tb} {X : Cx} {W : WX} {pos p p2 p3 pos' pos2 apos cpos : Pos} {e a b c o : Expr} {es : List Expr} {st : Stmt} {K : PySem.W.Frag} {G : Gh} {ρ ρ2 : En} {σ σ2 : L2.St} {H H' : Hp} {C : Addr} {A A' : RA} {R R' : Reg} {i : Nat} {D : Ends} {s : Shared} {pins : List (Addr × Obj)}
theorem item_da {v : V} {p : List Int × PyData} (hn : p.1 ≠ []) (h : Da K H v (itemI p)) : ∃ x q w, v = .ref x ∧ SqT K H x [.ref q, w] ∧ H q = some (.tup (p.1.map V.int)) ∧ Da K H w p.2 := by
  have key : ∀ {y : V}, Da K H y (keyI p.1) → ∃ q, y = .ref q ∧ H q = some (.tup (p.1.map V.int)) := fun h => by
    obtain ⟨q, e, h2⟩ := keyT_da h (keyTn_ik _ hn)
    refine ⟨q, e, ?_⟩
    rw [h2]
    unfold ik
    rw [List.map_map]
    rfl
  unfold itemI at h
  cases h with
  | tup h1 h2 => cases h2 with
    | cons a b => cases b with
      | cons c d => cases d with
        | nil =>
          obtain ⟨q, rfl, hq⟩ := key a
          exact ⟨_, q, _, rfl, SqT.of h1, hq, c⟩
  | ftup h1 h2 h3 h4 => cases h4 with
    | cons a b => cases b with
      | cons c d => cases d with
        | nil =>
          obtain ⟨q, rfl, hq⟩ := key a
          exact ⟨_, q, _, rfl, .inl (.inr ⟨_, h1⟩), hq, c⟩
theorem items_da : ∀ {vs : List V} {kvs : List (List Int × PyData)}, (∀ p ∈ kvs, p.1 ≠ []) → DaAll K H vs (kvs.map itemI) → ∃ ws : List (List Int × V), PairI K H vs ws ∧ ws.map (·.1) = kvs.map (·.1) ∧ DaAll K H (ws.map (·.2)) (kvs.map (·.2))
  | [], [], _, .nil => ⟨[], .nil, rfl, .nil⟩
  | _ :: _, p :: r, hn, .cons h t => by
    obtain ⟨x, q, w, rfl, h1, h2, h3⟩ := item_da (hn _ List.mem_cons_self) h
    obtain ⟨ws, g1, g2, g3⟩ := items_da (fun p hp => hn p (List.mem_cons_of_mem _ hp)) t
    exact ⟨(p.1, w) :: ws, .cons ⟨x, q, rfl, h1, h2⟩ g1, by rw [List.map_cons, List.map_cons, g2], .cons h3 g3⟩
theorem PairI.whole {O : List Addr} {vs : List V} {ws : List (List Int × V)} (h : PairI K (hide O H) vs ws) : PairI K H vs ws := by
  unfold PairI at h ⊢
  refine h.mono fun v kv ⟨p, q, e1, e2, e3⟩ => ⟨p, q, e1, ?_, (hide_some e3).2⟩
  have := sqT_ext (H' := hide [] H) (ext_sub (O' := []) fun _ z => by cases z) e2
  rwa [hide_nil] at this
def RowsI (d : PyData) (kvs : List (List Int × PyData)) : Prop := d = ptM (kvs.map itemI) ∧ (kvs.map (·.1)).Nodup ∧ ∀ p ∈ kvs, p.1 ≠ []
/-- what dict(..) asks of the tuple -/
theorem rows_dict {v : V} {d : PyData} {kvs : List (List Int × PyData)} {Q : Addr → List (List Int × V) → Hp → Prop} (hd : RowsI d kvs) (a : Da K (hide G.O H) v d)
    (h : ∀ ws p, ws.map (·.1) = kvs.map (·.1) → DaAll K (hide G.O H) (ws.map (·.2)) (kvs.map (·.2)) → H p = none → Q p ws (upd H p (.dT (ws.map fun q => (ik q.1, q.2))))) :
    ∃ (a : Addr) (ob : Obj) (vs : List V) (ws : List (List Int × V)), [v] = [.ref a] ∧ H a = some (.frz ob (.tup vs)) ∧ ob.dict = none ∧ PairI K H vs ws ∧ (ws.map (·.1)).Nodup ∧ ∀ p, H p = none → Q p ws (upd H p (.dT (ws.map fun q => (ik q.1, q.2)))) := by
  obtain ⟨rfl, nd, ne⟩ := hd
  obtain ⟨x, ob, vs, rfl, h1, h2, _, h4⟩ := pt_inv a
  obtain ⟨ws, g1, g2, g3⟩ := items_da ne h4
  exact ⟨x, ob, vs, ws, rfl, (hide_some h1).2, h2, g1.whole, by rw [g2]; exact nd, fun p hp => h ws p g2 g3 hp⟩
def dctI : List (List Int × PyData) → PyData
  | [] => .dict [(.none, .none)]
  | kvs => .dict (kvs.map fun p => (keyI p.1, p.2))
theorem da_dctI {x : Addr} {ws : List (List Int × V)} {kvs : List (List Int × PyData)} (h : H x = some (.dT (ws.map fun q => (ik q.1, q.2)))) (e : ws.map (·.1) = kvs.map (·.1)) (hd : DaAll K H (ws.map (·.2)) (kvs.map (·.2))) : Da K H (.ref x) (dctI kvs) := by
  cases kvs with
  | nil =>
    cases ws with
    | nil => exact .dte h
    | cons _ _ => cases e
  | cons q r =>
    have hd2 : DaAll K H ((ws.map fun q => ((ik q.1, q.2) : List Key × V)).map (·.2)) ((q :: r).map (·.2)) := by rw [List.map_map]; exact hd
    have := Da.dt h (by cases ws with
      | nil => cases e
      | cons _ _ => exact fun z => by cases z) hd2
    have e2 : ∀ {ws : List (List Int × V)} {kvs : List (List Int × PyData)}, ws.map (·.1) = kvs.map (·.1) → ((ws.map fun q => ((ik q.1, q.2) : List Key × V)).map fun p => PyData.tuple (p.1.map keyD)).zip (kvs.map (·.2)) = kvs.map fun p => (keyI p.1, p.2) := fun {ws kvs} e => by
      induction ws generalizing kvs with
      | nil => cases kvs with
        | nil => rfl
        | cons _ _ => cases e
      | cons w t ih => cases kvs with
        | nil => cases e
        | cons k u =>
          injection e with e1 e3
          simp only [List.map_cons, List.zip_cons_cons, ih e3]
          congr 2
          show PyData.tuple ((ik w.1).map keyD) = keyI k.1
          rw [show w.1 = k.1 from e1]
          unfold ik keyI
          rw [List.map_map]
          rfl
    rw [e2 e] at this
    exact this
/-- dict(e), a value -/
def wDictI (w : PW) : PW := fun ρ Q E => w ρ (fun d => ∃ kvs, RowsI d kvs ∧ Q (dctI kvs)) E
theorem de_dictI {k : Nat} {w : PW} (hc : X.calm = true) (hr : Room k X.A) (hg : Gl X "dict") (hm : X.mg "dict" = none) (h : DE T X W e w) (he : starEach [e] X.env = (false, eval e X.env) :: starEach [] X.env := by rfl) :
    DE T X W (.Call (.Name "dict" p) [e] [] pos) (wDictI w) :=
  ⟨pe_mono (pe_callTy (call_dictI (X := X) hc hr) hg hm (by decide +kernel : bootBuiltins "dict" = some (.type "dict")) (pa_cons h.pe pa_nil he) (by decide) (by decide) he rfl) fun σ H Q q => by
    obtain ⟨G, ρ, r, q⟩ := q
    refine ⟨G, ρ, r, h.mono _ _ _ _ _ (fun d ⟨kvs, hk, hQ⟩ v H' r' a => ?_) (fun _ z => z) q⟩
    refine rows_dict (Q := fun p ws H => Q (.ref p) H) hk a fun ws p e1 e2 hp => ?_
    obtain ⟨r2, x2, np, h2⟩ := r'.new (o := .dT (ws.map fun q => (ik q.1, q.2))) hp
    exact hQ _ _ r2 (da_dctI h2 e1 (e2.ext x2)), fun ρ Q Q' E E' hq he q => h.mono _ _ _ _ _ (fun d ⟨kvs, h1, h2⟩ => ⟨kvs, h1, hq _ h2⟩) he q⟩
/-- x = dict(e), ours -/
def sDictI (i : Nat) (w : PW) : SW := fun ρ D => w ρ (fun d => ∃ kvs, RowsI d kvs ∧ D.nx (ρ.set i (.ot (kvs.map fun p => (ik p.1, p.2))))) D.ex
theorem ds_dictI {k : Nat} {x : Str} {w : PW} (hN : X.N.Nodup) (hi : X.N[i]? = some x) (hx : Loc X.env.scope x) (hc : X.calm = true) (hr : Room k X.A) (hg : Gl X "dict") (hm : X.mg "dict" = none) (h : DE T X W e w)
    (hs : swapsWith (.Call (.Name "dict" p) [e] [] p2) (some (.Name x pos')) pos.line X.env = pure false := by rfl) (he : starEach [e] X.env = (false, eval e X.env) :: starEach [] X.env := by rfl)
    (hf : X.fn x = true ∨ X.env.scope.names.lookup x = some .local := by first | exact .inl rfl | exact .inr rfl | assumption) : DS T X W (.Assign [.Name x pos'] (.Call (.Name "dict" p) [e] [] p2) pos) (sDictI i w) :=
  ⟨ps_mono (ps_set hN hi hx (pe_callTy (call_dictI (X := X) hc hr) hg hm (by decide +kernel : bootBuiltins "dict" = some (.type "dict")) (pa_cons h.pe pa_nil he) (by decide) (by decide) he rfl) hs hf) fun D σ H q => by
    obtain ⟨G, ρ, r, fa, q⟩ := q
    refine ⟨G, ρ, r, h.mono _ _ _ _ _ (fun d ⟨kvs, hk, hQ⟩ v H' r' a => ?_) (fun _ z => ex_out' z) q⟩
    refine rows_dict (Q := fun p ws H => gName i (.ref p) σ H D.nx) hk a fun ws p0 e1 e2 hp => ?_
    obtain ⟨r1, eh, na, ap⟩ := r'.own (o := .dT (ws.map fun q => (ik q.1, q.2))) hp (nt_of rfl)
    have nd : p0 ∉ T.dc := fun z => na (r'.dcs p0 z).1
    exact hQ _ _ (p0 :: G.O) (r1.setSl (s := .ot (kvs.map fun p => (ik p.1, p.2))) ⟨p0, _, rfl, ⟨List.mem_cons_self, nd⟩, upd_same, by rw [List.map_map, List.map_map]; exact map_ik e1, by rw [eh, List.map_map, List.map_map]; exact e2⟩ fun _ b eb j t _ hj ht => by cases eb; exact (ap j t hj ht).1) (fa.setSl fun _ q hq e => na (by cases e; exact (r'.fly q hq).1)),
   fun ρ D D' l q => h.mono _ _ _ _ _ (fun d ⟨kvs, h1, h2⟩ => ⟨kvs, h1, l.nx _ h2⟩) l.ex q⟩
where
  map_ik {ws : List (List Int × V)} {kvs : List (List Int × PyData)} (e : ws.map (·.1) = kvs.map (·.1)) : ws.map ((fun x : List Key × V => x.1) ∘ fun q => (ik q.1, q.2)) = kvs.map ((fun x : List Key × PyData => x.1) ∘ fun p => (ik p.1, p.2)) := by
    have := congrArg (List.map ik) e
    rwa [List.map_map, List.map_map] at this
theorem fld_set {x : Addr} : ∀ {r t d u : Addr}, putF "undone" (.ref x) (rgF r t d u) = rgF r t d x ∧ putF "things" (.ref x) (rgF r t d u) = rgF r x d u := fun {r t d u} => ⟨by rfl, by rfl⟩
end
end PL
set_option Elab.async false
set_option linter.all false
set_option maxRecDepth 100000
set_option maxHeartbeats 2000000
namespace PL
open PySem PySem.Spec PyProof.Rows L2
open LamX (ExtN Tabs TabS)
section
variable {T : Tb} {X : Cx} {W : WX} {pos p p2 p3 pos' pos2 apos cpos : Pos} {e a b c o : Expr} {es : List Expr} {st : Stmt} {K : PySem.W.Frag} {G : Gh} {ρ ρ2 : En} {σ σ2 : L2.St} {H H' : Hp} {C : Addr} {A A' : RA} {R R' : Reg} {i : Nat} {D : Ends} {s : Shared} {pins : List (Addr × Obj)}
theorem newO_ext (r : Rep T K G ρ σ H) (own0 : RgOwn T.dc G.O A) (e : ∀ a o, H a = some o → ¬ A.has a → a ∉ T.dc → (∀ ps, o ≠ .tbl ps) → H' a = some o) (own : ∀ a, A'.has a → A.has a ∨ (a ∉ G.O ∧ ∀ o, H a = some o → ∃ ps, o = .tbl ps)) :
    ExtN (hide G.O H) (hide (newO A A' G.O) H') := fun b o hb n => by
  obtain ⟨g1, g2⟩ := hide_some hb
  have na : ¬ A.has b := fun z => g1 (own0 b z).1
  rw [hide_out fun z => ?_]
  · exact e b o g2 na (fun z => g1 (r.dcs b z).1) n
  · rcases mem_newO.mp z with z | z
    · exact g1 z.1
    · rcases own b z with z | ⟨_, z⟩
      · exact na z
      · obtain ⟨ps, z⟩ := z o g2
        exact n ps z
/-- the instance and a new object -/
def mvH (H : Hp) (q : Addr) (o1 : HO) (b : Addr) (o2 : HO) (o3 : HO) : Hp := upd (upd (upd H q o1) b o2) q o3
theorem mvH_else {H : Hp} {q b c : Addr} {o1 o2 o3 : HO} (h1 : c ≠ q) (h2 : c ≠ b) : mvH H q o1 b o2 o3 c = H c := by
  unfold mvH
  rw [upd_ne h1, upd_ne h2, upd_ne h1]
theorem mvH_b {H : Hp} {q b : Addr} {o1 o2 o3 : HO} (h : b ≠ q) : mvH H q o1 b o2 o3 b = some o2 := by
  unfold mvH
  rw [upd_ne h, upd_same]
theorem mvH_q {H : Hp} {q b : Addr} {o1 o2 o3 : HO} : mvH H q o1 b o2 o3 q = some o3 := upd_same
theorem Rep.moved (r : Rep T K G ρ σ H) (fa : FlApt G.fl ρ σ) (hi : ρ[i]? = some (.rg A R)) (by_ : ByE i ρ) {q : Addr} {o1 o2 o3 : HO} (hq : H q = none) (t : TOk T (mvH H q o1 A.b o2 o3)) (eb : A'.b = A.b) (ap : A'.apart) (own : ∀ a, A'.has a → A.has a ∨ a = q)
    (hR : ∀ B, ExtN (hide G.O H) B → B = hide (newO A A' G.O) (mvH H q o1 A.b o2 o3) → RgAt K B (mvH H q o1 A.b o2 o3) A' R') : Rep T K ⟨G.Hb, newO A A' G.O, G.fl⟩ (ρ.set i (.rg A' R')) σ (mvH H q o1 A.b o2 o3) ∧ FlApt G.fl (ρ.set i (.rg A' R')) σ := by
  obtain ⟨h1, own0, ap0, hR0⟩ := r.rgAt hi
  have nq : q ∉ G.O := fun z => by obtain ⟨o, e, _⟩ := r.dom q z; rw [hq] at e; cases e
  have e : ∀ a o, H a = some o → ¬ A.has a → a ∉ T.dc → (∀ ps, o ≠ .tbl ps) → mvH H q o1 A.b o2 o3 a = some o := fun a o h na _ _ => by
    rw [mvH_else (ne_of_none h hq) fun z => na (.inl z)]
    exact h
  have own2 : ∀ a, A'.has a → A.has a ∨ (a ∉ G.O ∧ ∀ o, H a = some o → ∃ ps, o = .tbl ps) := fun a ha => (own a ha).elim .inl fun z => .inr (by subst z; exact ⟨nq, fun o h => by rw [hq] at h; cases h⟩)
  refine r.regive fa hi by_ e (fun a ha => ?_) t eb ap (fun a ha => ⟨?_, own2 a ha⟩) (hR _ (newO_ext r own0 e own2) rfl)
  · obtain ⟨g1, ⟨x, y, z, g2⟩, g3⟩ := r.dcs a ha
    exact ⟨x, y, z, by rw [mvH_else (ne_of_none g2 hq) fun z => (own0 _ (.inl rfl)).2 (by rw [← z]; exact ha)]; exact g2⟩
  · rcases own a ha with z | z
    · exact (own0 a z).2
    · subst z
      exact fun y => nq (r.dcs a y).1
def sUNil (i : Nat) : SW := fun ρ D => ∃ A R, ρ[i]? = some (.rg A R) ∧ ByE i ρ ∧ ∀ A' : RA, A'.b = A.b → D.nx (ρ.set i (.rg A' { R with undone := [] }))
theorem ds_unil {i : Nat} (RC : RgC X.K C) (ho : PE X o (tVar i)) (hs : swapsWith (.List [] p3) (some (.Attribute o "undone" pos')) pos.line X.env = pure false := by rfl) :
    DS T X W (.Assign [.Attribute o "undone" pos'] (.List [] p3) pos) (sUNil i) :=
  ⟨ps_mono (ps_rel (ps_fld ho (pe_lst pa_nil) hs)) fun D σ H q => by
    obtain ⟨G, ρ, r, fa, A, R, hi, by_, qq⟩ := q
    obtain ⟨h1, own, ap, hR⟩ := r.rgAt hi
    obtain ⟨dx, r', g1, g0⟩ := hR.insC RC
    refine fun pins s I => ⟨H, I, Nat.zero_le _, fun q hq => ⟨_, h1, A.b, C, dx, rgF r' A.t A.d A.u, rfl, ?_, RC.cl, RC.n4, by show 4 < 1000; decide, ?_⟩⟩
    · rw [upd_ne (ne_of_none g1 hq)]
      exact g1
    · rw [fld_set.1]
      have nb : A.b ≠ q := ne_of_none g1 hq
      refine rel_RL (vs := []) (ad := q) (by rw [upd_ne (Ne.symm nb), upd_same]) ?_
      have t0 : TOk T (upd H q (.lst [])) := r.tab.keep fun b o e => by rw [upd_ne (ne_of_none e hq)]; exact e
      have t1 : TOk T (upd (upd H q (.lst [])) A.b (.ins C dx (rgF r' A.t A.d q))) := t0.ins (ad := A.b) (C := C) (dx := dx) (fs := rgF r' A.t A.d A.u) (by rw [upd_ne nb]; exact g1)
      have t2 : TOk T (mvH H q (.lst []) A.b (.ins C dx (rgF r' A.t A.d q)) (RL q [])) := t1.upd (o := .lst []) (by rw [upd_ne (Ne.symm nb), upd_same]) (.inl ⟨_, rfl⟩)
      have nx : ∀ c, A.has c → c ≠ q := fun c hc => by obtain ⟨o, ho, _⟩ := hR.kind c hc; exact ne_of_none ho hq
      obtain ⟨r2, fa2⟩ := r.moved (A' := { A with u := q }) (R' := { R with undone := [] }) fa hi by_ hq t2 rfl ⟨nx _ (.inr (.inr (.inl rfl))), ap.2.1, nx _ (.inr (.inl rfl))⟩ (fun c hc => by
        rcases hc with z | z | z | z
        · exact .inl (.inl z)
        · exact .inl (.inr (.inl z))
        · exact .inl (.inr (.inr (.inl z)))
        · exact .inr z) fun B eB _ => by
        obtain ⟨_, ⟨ts, k4, k5, k6, k7⟩, ⟨vs, k8, k9⟩, _⟩ := hR
        have pt := RgAt.parts (K := X.K) (B := hide G.O H) (H := H) (A := A) (R := R) (r.rgAt hi).2.2.2
        exact ⟨⟨C, dx, r', RC.ns, mvH_b nb, eB _ _ g0 fun ps z => by cases z⟩, ⟨ts, by rw [mvH_else (nx _ (.inr (.inl rfl))) (Ne.symm pt.1)]; exact k4, k5, fun p hp => eB _ _ (k6 p hp) (fun ps z => by cases z), k7.ext eB⟩, ⟨vs, by rw [mvH_else (nx _ (.inr (.inr (.inl rfl)))) (Ne.symm pt.2.1)]; exact k8, k9.ext eB⟩, ⟨[], mvH_q, .nil⟩⟩
      exact qq { A with u := q } rfl σ _ _ r2 fa2, fun ρ D D' l ⟨A, R, h1, h2, h3⟩ => ⟨A, R, h1, h2, fun A' hA => l.nx _ (h3 A' hA)⟩⟩
def sThSet (i : Nat) (w : PW) : SW := fun ρ D => ∃ A R, ρ[i]? = some (.rg A R) ∧ ByE i ρ ∧ w ρ (fun d => ∃ kvs, RowsI d kvs ∧ ∀ A' : RA, A'.b = A.b → D.nx (ρ.set i (.rg A' { R with things := kvs }))) (fun _ => False)
theorem ds_thset {i k : Nat} {w : PW} (RC : RgC X.K C) (hc : X.calm = true) (hr : Room k X.A) (hg : Gl X "dict") (hm : X.mg "dict" = none) (ho : PE X o (tVar i)) (h : DE T X W e w) (hs : swapsWith (.Call (.Name "dict" p) [e] [] p2) (some (.Attribute o "things" pos')) pos.line X.env = pure false := by rfl)
    (he : starEach [e] X.env = (false, eval e X.env) :: starEach [] X.env := by rfl) :
    DS T X W (.Assign [.Attribute o "things" pos'] (.Call (.Name "dict" p) [e] [] p2) pos) (sThSet i w) :=
  ⟨ps_mono (ps_rel (ps_fld ho (pe_callTy (call_dictI (X := X) hc hr) hg hm (by decide +kernel : bootBuiltins "dict" = some (.type "dict")) (pa_cons h.pe pa_nil he) (by decide) (by decide) he rfl) hs)) fun D σ H q => by
    obtain ⟨G, ρ, r, fa, A, R, hi, by_, q⟩ := q
    refine fun pins s I => ⟨H, I, G, ρ, r, h.mono _ _ _ _ _ (fun d ⟨kvs, hk, hQ⟩ v H1 r1 a => ?_) (fun _ z => z.elim) q⟩
    refine rows_dict (Q := fun q ws H2 => _) hk a fun ws q e1 e2 hq => ?_
    obtain ⟨h1, own, ap, hR⟩ := r1.rgAt hi
    obtain ⟨dx, r', g1, g0⟩ := hR.insC RC
    have nb : A.b ≠ q := ne_of_none g1 hq
    refine ⟨_, h1, A.b, C, dx, rgF r' A.t A.d A.u, rfl, by rw [upd_ne nb]; exact g1, RC.cl, RC.n2, by show 4 < 1000; decide, ?_⟩
    rw [fld_set.2]
    refine rel_RT (kvs := ws) (ad := q) (by rw [upd_ne (Ne.symm nb), upd_same]) fun ts f1 f2 => ?_
    have t0 : TOk T (upd H1 q (.dT (ws.map fun q => (ik q.1, q.2)))) := r1.tab.keep fun b o e => by rw [upd_ne (ne_of_none e hq)]; exact e
    have t1 : TOk T (upd (upd H1 q (.dT (ws.map fun q => (ik q.1, q.2)))) A.b (.ins C dx (rgF r' q A.d A.u))) := t0.ins (ad := A.b) (C := C) (dx := dx) (fs := rgF r' A.t A.d A.u) (by rw [upd_ne nb]; exact g1)
    have t2 : TOk T (mvH H1 q (.dT (ws.map fun q => (ik q.1, q.2))) A.b (.ins C dx (rgF r' q A.d A.u)) (RT q ts)) := t1.updT (by rw [upd_ne (Ne.symm nb), upd_same])
    have nx : ∀ c, A.has c → c ≠ q := fun c hc => by obtain ⟨o, ho, _⟩ := hR.kind c hc; exact ne_of_none ho hq
    obtain ⟨r2, fa2⟩ := r1.moved (A' := { A with t := q }) (R' := { R with things := kvs }) fa hi by_ hq t2 rfl ⟨ap.1, Ne.symm (nx _ (.inr (.inr (.inl rfl)))), Ne.symm (nx _ (.inr (.inr (.inr rfl))))⟩ (fun c hc => by
      rcases hc with z | z | z | z
      · exact .inl (.inl z)
      · exact .inr z
      · exact .inl (.inr (.inr (.inl z)))
      · exact .inl (.inr (.inr (.inr z)))) fun B eB eB2 => by
      obtain ⟨_, _, ⟨vs, k8, k9⟩, ⟨us, k10, k11⟩⟩ := hR
      have pt := RgAt.parts (K := X.K) (B := hide G.O H1) (H := H1) (A := A) (R := R) (r1.rgAt hi).2.2.2
      refine ⟨⟨C, dx, r', RC.ns, mvH_b nb, eB _ _ g0 fun ps z => by cases z⟩, ⟨ts, mvH_q, ?_, fun p hp => ?_, ?_⟩, ⟨vs, by rw [mvH_else (nx _ (.inr (.inr (.inl rfl)))) (Ne.symm pt.2.1)]; exact k8, k9.ext eB⟩, ⟨us, by rw [mvH_else (nx _ (.inr (.inr (.inr rfl)))) (Ne.symm pt.2.2)]; exact k10, k11.ext eB⟩⟩
      · rw [← e1, ← f1, List.map_map]; rfl
      · have z := f2 p hp
        have n1 : p.2.1 ≠ A.b := fun y => by rw [y, upd_same] at z; cases z
        rw [upd_ne n1] at z
        have n2 : p.2.1 ≠ q := fun y => by rw [y, upd_same] at z; cases z
        rw [upd_ne n2] at z
        refine eB _ _ ?_ (fun ps z => by cases z)
        rw [hide_out fun y => ?_]
        · exact z
        · obtain ⟨o, ho, n⟩ := r1.dom _ y
          rw [z] at ho
          cases ho
          exact n.tp _ rfl
      · have := e2.ext eB
        rw [← f1, List.map_map] at this
        exact this
    exact hQ { A with t := q } rfl σ _ _ r2 fa2, fun ρ D D' l ⟨A, R, h1, h2, h3⟩ => ⟨A, R, h1, h2, h.mono _ _ _ _ _ (fun d ⟨kvs, k1, k2⟩ => ⟨kvs, k1, fun A' hA => l.nx _ (k2 A' hA)⟩) (fun _ z => z) h3⟩⟩
end
end PL
set_option Elab.async false
set_option linter.all false
set_option maxRecDepth 100000
set_option maxHeartbeats 2000000
namespace PL
open PySem PySem.Spec PyProof.Rows L2
open LamX (ExtN Tabs TabS)
open Classical in
noncomputable def flG (D0 : List Addr) (A : RA) (O : List Addr) (H : Hp) : List (Addr × HO) := O.filterMap fun a => if a ∈ D0 ∨ A.has a then none else (H a).map fun o => (a, o)
open Classical in
theorem mem_flG {D0 O : List Addr} {A : RA} {H : Hp} {a : Addr} {o : HO} : (a, o) ∈ flG D0 A O H ↔ a ∈ O ∧ a ∉ D0 ∧ ¬ A.has a ∧ H a = some o := by
  unfold flG
  rw [List.mem_filterMap]
  constructor
  · rintro ⟨b, hb, e⟩
    by_cases z : b ∈ D0 ∨ A.has b
    · rw [if_pos z] at e; cases e
    · rw [if_neg z] at e
      cases h : H b with
      | none => rw [h] at e; cases e
      | some o' => rw [h] at e; cases e; exact ⟨hb, fun y => z (.inl y), fun y => z (.inr y), h⟩
  · rintro ⟨h1, h2, h3, h4⟩
    exact ⟨a, h1, by rw [if_neg fun z => z.elim h2 h3, h4]; rfl⟩
structure BackG (T : Tb) (K : PySem.W.Frag) (A : RA) (O : List Addr) (A' : RA) (R' : Reg) (H H' : Hp) : Prop where
  e : ∀ a o, H a = some o → ¬ A.has a → a ∉ T.dc → (∀ ps, o ≠ .tbl ps) → H' a = some o
  dc : ∀ a ∈ T.dc, ∃ x y z, H' a = some (.lst [.int x, .int y, .int z])
  tab : TOk T H'
  ap : A'.apart
  own : ∀ a, A'.has a → a ∉ T.dc ∧ (A.has a ∨ (a ∉ O ∧ ∀ o, H a = some o → ∃ ps, o = .tbl ps))
  rg : RgAt K (hide (newO A A' O) H') H' A' R'
abbrev CG := RA → Reg → List Sl → (RA → Reg → Prop) → Prop
def MonoG (c : CG) : Prop := ∀ A R ss Q Q', (∀ A' R', Q A' R' → Q' A' R') → c A R ss Q → c A R ss Q'
def spG (T : Tb) (K : PySem.W.Frag) (n : Nat) (c : CG) : Sp := fun vs H Q _ => ∃ (O : List Addr) (A : RA) (R : Reg) (ss : List Sl), ss.length + 1 = n ∧ Rep T K ⟨hide O H, O, flG T.dc A O H⟩ (.rg A R :: ss) (vs.map some) H ∧ (∀ s ∈ ss, s.owned = false) ∧
  c A R ss (fun A' R' => A'.b = A.b ∧ ∀ H', BackG T K A O A' R' H H' → Q .non H')
def cOfG (N : List Str) (w : SW) : CG := fun A R ss Q => w ((.rg A R :: ss) ++ List.replicate (N.length - (ss.length + 1)) .un) { nx := fun ρ' => ∃ A' R', ρ'[0]? = some (.rg A' R') ∧ Q A' R', rt := fun _ => False }
theorem mono_cOfG {N : List Str} {w : SW} (m : MonoS w) : MonoG (cOfG N w) := fun A R ss Q Q' hq h => m _ { nx := fun ρ' => ∃ A' R', ρ'[0]? = some (.rg A' R') ∧ Q A' R', rt := fun _ => False } _ ⟨fun ρ' ⟨A', R', h1, h2⟩ => ⟨A', R', h1, hq _ _ h2⟩, fun _ z => z, fun _ z => z, fun _ z => z, fun _ z => z, fun _ z => z⟩ h
section
variable {T : Tb} {X : Cx} {W : WX} {pos p p2 p3 pos' pos2 apos cpos : Pos} {e a b c o : Expr} {es : List Expr} {st : Stmt} {K : PySem.W.Frag} {G : Gh} {ρ ρ2 : En} {σ σ2 : L2.St} {H H' : Hp} {C : Addr} {A A' : RA} {R R' : Reg} {i : Nat} {D : Ends}
theorem Rep.backG {O O' : List Addr} {ρ' : En} (r : Rep T K ⟨hide O H, O', flG T.dc A O H⟩ ρ' σ H') (fa : FlApt (flG T.dc A O H) ρ' σ) (dom : ∀ a ∈ O, ∃ o, H a = some o ∧ NT o) (hi : ρ'[0]? = some (.rg A' R')) : BackG T K A O A' R' H H' := by
  obtain ⟨h1, own, ap, hR⟩ := r.rgAt hi
  have inO : ∀ b ∈ O, ¬ A.has b → b ∈ O' := fun b hb na => by
    by_cases z : b ∈ T.dc
    · exact (r.dcs b z).1
    · obtain ⟨o, ho, _⟩ := dom b hb
      exact (r.fly (b, o) (mem_flG.mpr ⟨hb, z, na, ho⟩)).1
  refine ⟨fun b o hb na nd n => ?_, fun a ha => (r.dcs a ha).2.1, r.tab, ap, fun b hb => ⟨(own b hb).2, ?_⟩, hR.ext (fun b o hb n => ?_) fun _ _ => rfl⟩
  · by_cases z : b ∈ O
    · exact (r.fly (b, o) (mem_flG.mpr ⟨z, nd, na, hb⟩)).2
    · exact (hide_some (r.ext b o (by show hide O H b = some o; rw [hide_out z]; exact hb) n)).2
  · by_cases y : A.has b
    · exact .inl y
    · have nO : b ∉ O := fun z => by
        obtain ⟨o, ho, _⟩ := dom b z
        exact (fa (b, o) (mem_flG.mpr ⟨z, (own b hb).2, y, ho⟩) 0 _ hi rfl).2 hb
      refine .inr ⟨nO, fun o ho => ?_⟩
      cases o with
      | tbl ps => exact ⟨ps, rfl⟩
      | _ =>
        exfalso
        have := r.ext b _ (by show hide O H b = _; rw [hide_out nO]; exact ho) (fun ps z => by cases z)
        exact (hide_some this).1 (own b hb).1
  · obtain ⟨g1, g2⟩ := hide_some hb
    rw [hide_out fun z => ?_]
    · exact g2
    · rcases mem_newO.mp z with ⟨z1, z2⟩ | z
      · exact g1 (inO b z1 z2)
      · exact g1 (own b z).1
/-- THE RULE for such a method -/
theorem fn_okG {P : Program} {w : World} {mg : Str → Option Value} {base : Heap} {x y : Str} {f cc : Addr} {fd : FuncData} {N ps : List Str} {k : Nat} {u : SW} (F : FunM K x y st f cc fd) (S : FnScope N ps (defScope st)) (hps : ps ≠ [])
    (hb : ∀ (A : Around) (outer : List Env) (s : Shared) (H : Hp) (E : XK), Room k (A.deeper (envOfC y (defScope st) s.heap.objs.size f (.ref cc))) →
      DSs T (cxOf (L2.CX P w) P w K mg base N y (defScope st) f (.ref cc) A outer s H E) (fun cls d _ H => E cls d H) (defBody st) u) : FnOk P w K mg base (L2.CX P w) (k + 1) f fd ps (spG T K ps.length (cOfG N u)) := by
  refine F.okX S (fun vs H Q E h => ?_) (fun A0 outer s H vs Q E hr h => ⟨_, (hb A0 outer s H E hr).ps, ?_⟩)
  · obtain ⟨O, A, R, ss, h1, h2, _⟩ := h
    have := h2.len
    rw [List.length_map, List.length_cons] at this
    omega
  · obtain ⟨O, A, R, ss, h1, r, no, q⟩ := h
    have hl : (Sl.rg A R :: ss).length = vs.length := by have := r.len; rw [List.length_map] at this; exact this
    obtain ⟨g1, own, ap, hR⟩ := r.rgAt (i := 0) rfl
    refine ⟨⟨hide O H, O, flG T.dc A O H⟩, (.rg A R :: ss) ++ List.replicate (N.length - (ss.length + 1)) .un, ?_, fun q hq j t hj ht => ?_, ?_⟩
    · rw [start_eq hl]
      exact r.more _
    · obtain ⟨b, o⟩ := q
      obtain ⟨k1, k2, k3, k4⟩ := mem_flG.mp hq
      by_cases z : j < (Sl.rg A R :: ss).length
      · rw [List.getElem?_append_left z] at hj
        cases j with
        | zero =>
          simp at hj
          subst hj
          refine ⟨fun e => k3 ?_, k3⟩
          rw [start_eq hl, List.getElem?_append_left (by rw [List.length_map, ← hl]; exact z)] at e
          rw [g1] at e
          have : A.b = b := by injection e with e; injection e with e; injection e
          exact .inl this.symm
        | succ j =>
          rw [List.getElem?_cons_succ] at hj
          rw [no t (List.mem_of_getElem? hj)] at ht
          cases ht
      · rw [List.getElem?_append_right (by omega), List.getElem?_replicate] at hj
        split at hj
        · cases hj; cases ht
        · cases hj
    · refine (hb A0 outer s H E hr).mono _ { nx := fun ρ' => ∃ A' R', ρ'[0]? = some (.rg A' R') ∧ A'.b = A.b ∧ ∀ H', BackG T K A O A' R' H H' → Q .non H', rt := fun _ => False } _ ⟨fun ρ' ⟨A', R', e1, e2, h⟩ σ' H' O' r' fa' => ?_, fun _ z => z.elim, fun _ z => z.elim, fun _ z => z.elim, fun _ z => z.elim, fun _ z => z.elim⟩ q
      exact h H' (r'.backG fa' r.dom e1)
theorem args_repG {vs : List V} {ss : List Sl} (r : Rep T K G ρ σ H) (hi : ρ[i]? = some (.rg A R)) (h : ArgsOk T K (hide G.O H) vs ss) : Rep T K ⟨hide G.O H, G.O, flG T.dc A G.O H⟩ (.rg A R :: ss) ((V.ref A.b :: vs).map some) H ∧ ∀ s ∈ ss, s.owned = false := by
  obtain ⟨h1, own, ap, hR⟩ := r.rgAt hi
  obtain ⟨r0, no⟩ := args_rep r h
  refine ⟨⟨by rw [List.length_cons, List.map_cons, List.length_cons, r0.len], fun j s hj => ?_, fun j k s t b hjk hj hk hs ht e1 e2 => ?_, r.tab, ExtN.refl _, r.dom, fun q hq => ?_, fun a ha => ⟨(r.dcs a ha).1, (r.dcs a ha).2.1, fun q hq z => ?_⟩⟩, no⟩
  · cases j with
    | zero => simp at hj; subst hj; exact ⟨_, rfl, rfl, own, ap, hR⟩
    | succ j =>
      rw [List.getElem?_cons_succ] at hj
      obtain ⟨v, g1, g2⟩ := r0.slot j s hj
      exact ⟨v, g1, g2⟩
  · have zero : ∀ {l : Nat} {u : Sl}, (Sl.rg A R :: ss)[l]? = some u → u.owned = true → l = 0 := fun {l u} hl hu => by
      cases l with
      | zero => rfl
      | succ l => rw [List.getElem?_cons_succ] at hl; rw [no u (List.mem_of_getElem? hl)] at hu; cases hu
    exact hjk ((zero hj hs).trans (zero hk ht).symm)
  · obtain ⟨b, o⟩ := q
    obtain ⟨k1, k2, k3, k4⟩ := mem_flG.mp hq
    exact ⟨k1, k4⟩
  · obtain ⟨b, o⟩ := q
    obtain ⟨k1, k2, k3, k4⟩ := mem_flG.mp hq
    exact k2 (by rw [show b = a from z]; exact ha)
/-- behind the call -/
theorem Rep.fromG (r : Rep T K G ρ σ H) (fa : FlApt G.fl ρ σ) (hi : ρ[i]? = some (.rg A R)) (by_ : ByE i ρ) (eb : A'.b = A.b) (bk : BackG T K A G.O A' R' H H') : Rep T K ⟨G.Hb, newO A A' G.O, G.fl⟩ (ρ.set i (.rg A' R')) σ H' ∧ FlApt G.fl (ρ.set i (.rg A' R')) σ :=
  r.regive fa hi by_ bk.e bk.dc bk.tab eb bk.ap bk.own bk.rg
/-- self.m(..), a statement -/
def sMethG (n i : Nat) (c : CG) (ws : PWp) : SW := fun ρ D => ∃ A R, ρ[i]? = some (.rg A R) ∧ ByE i ρ ∧ ws ρ (fun ss => ss.length + 1 = n ∧ c A R ss (fun A' R' => A'.b = A.b ∧ D.nx (ρ.set i (.rg A' R')))) (fun _ => False)
theorem ds_methG {pl : Sem Bool} {k n i : Nat} {f : Addr} {fd : FuncData} {ps : List Str} {c : CG} {ws : PWp} {m : Str} (RC : RgC X.K C) (hm : Meth X.K C m f) (hl : ∀ r t d u, (rgF r t d u).lookup m = none) (F : FnOk X.prog X.w X.K X.mg X.base (L2.CX X.prog X.w) k f fd ps (spG T X.K n c)) (mc : MonoG c) (hr : Room k X.A)
    (hb : Binds X.K fd ps []) (tk : Takes X W) (ho : PE X o (tVar i)) (h : DP T X W (e :: es) ws) (hst : starEach (e :: es) X.env = (false, eval e X.env) :: starEach es X.env) (hpl : (backTo pos (starEach es X.env)).any (·.1) = false)
    (ht : eval (.Call (.Attribute o m apos) (e :: es) [] pos) X.env = (do
      let ov ← eval o X.env
      standAt apos.atName
      let q ← holding [ov] (getMethod ov m pl)
      callWith pos q.1 q.2 (backTo pos (starEach (e :: es) X.env)) (backToKw pos (keywordEach [] X.env))))
    (hs0 : swapsWith (.Call (.Attribute o m apos) (e :: es) [] pos) none pos'.line X.env = pure false := by rfl) : DS T X W (.Expr (.Call (.Attribute o m apos) (e :: es) [] pos) pos') (sMethG n i c ws) :=
  ⟨ps_mono (ps_expr (pe_methSD (E := fun σ => fun cls d H => W cls d σ H) ho RC.cl hm F hr hb (fun σ => passAt tk σ) h.pa hst hpl ht) hs0) fun D σ H q => by
    obtain ⟨G, ρ, r, fa, A, R, hi, by_, q⟩ := q
    obtain ⟨h1, own, ap, hR⟩ := r.rgAt hi
    obtain ⟨dx, r', g1, _⟩ := hR.insC RC
    refine ⟨_, h1, A.b, dx, _, rfl, g1, hl _ _ _ _, G, ρ, r, h.mono _ _ _ _ _ (fun ss hss vs H1 r1 a1 => ?_) (fun x z => z.elim) q⟩
    obtain ⟨r2, no⟩ := args_repG r1 hi a1
    exact ⟨G.O, A, R, ss, hss.1, r2, no, mc _ _ _ _ _ (fun A' R' hq => ⟨hq.1, fun H' bk => by
      obtain ⟨r3, fa3⟩ := r1.fromG fa hi by_ hq.1 bk
      exact hq.2 σ H' _ r3 fa3⟩) hss.2⟩,
   fun ρ D D' l ⟨A, R, h1, h2, h3⟩ => ⟨A, R, h1, h2, h.mono _ _ _ _ _ (fun ss ⟨k1, k2⟩ => ⟨k1, mc _ _ _ _ _ (fun A' R' hq => ⟨hq.1, l.nx _ hq.2⟩) k2⟩) (fun _ z => z) h3⟩⟩
end
end PL
set_option Elab.async false
set_option linter.all false
set_option maxRecDepth 100000
set_option maxHeartbeats 2000000
namespace PL
open PySem PySem.Spec PyProof.Rows L2 LamX
def TToldB (K : PySem.W.Frag) (CS : Addr) (r1 r2 : Str) : (XK → Hp → VK → Prop) → Hp → VK → Prop := fun tl H Q =>
  tl (fun cls _ H' => ∃ b, PySem.W.exmOne K cls (.ref CS) = some b ∧ (b = true → Q (.str r1) H') ∧ (b = false → False)) H (fun _ H' => Q (.str r2) H')
section
variable {X : Cx}
theorem told_givesB {Ng : List Str} {x a e q r1 r2 : Str} {sg : Scope} {g CS : Addr} {cdg : Value} {j j2 : Nat} {p1 p2 p3 p4 p5 p6 p7 p8 p9 p10 : Pos} (hge : sg.names.lookup e = some .globalImplicit) (hme : X.mg e = some (.ref CS)) (hde : (e == ("__debug__" : Str)) = false) (h0 : ∀ f : Addr, (L2.start Ng [V.ref f])[0]? = some (some (V.ref f))) :
    GivesTo X Ng x sg g cdg [.Try [.Expr (.Call (.Name a p1) [] [] p2) p3] [.ExceptHandler (some (.Name e p4)) none [.Return (some (.Constant (.str r1) j p5)) p6] p7] [] [] p8, .Return (some (.Constant (.str r2) j2 p9)) p10] a q (TToldB X.K CS r1 r2) := by
  intro f c' s H Q tl act hc h
  have hgl : Gl (cxOf C8.CX0 X.prog X.w X.K X.mg X.base Ng x sg g cdg X.A X.stack s H C8.E0).nox e := hge
  refine ⟨_, pss_cons (ps_try_only (X := (cxOf C8.CX0 X.prog X.w X.K X.mg X.base Ng x sg g cdg X.A X.stack s H C8.E0).nox) (c := .ref CS)
      (tb := fun W D σ H => ∃ Ech : XK, (∀ cls d σ' H', Ech cls d H' → W cls d σ' H') ∧ σ[0]? = some (some (.ref f)) ∧ H c' = some (CodeO c' q) ∧ tl Ech H (fun _ H' => D.nx σ H'))
      rfl rfl ⟨hgl, hde, .inl hme⟩ LamX.takes0 (fun W pn xe tk _ => ?_) (fun a oe cls d pn _ _ => pss_one (ps_ret pe_str))) (pss_one (ps_ret pe_str)), ?_⟩
  · exact ⟨fun pins s' σ H' D I ⟨Ech, hW, h1, h2, h3⟩ => (pss_one (ps_expr (pos := p3) (act W pn xe Ech p1 p2 tk hW))).run pins s' σ H' D I ⟨h1, h2, h3⟩⟩
  · exact ⟨fun cls _ H' => ∃ b, PySem.W.exmOne X.K cls (.ref CS) = some b ∧ (b = true → Q (.str r1) H') ∧ (b = false → False), fun cls d σ' H' ⟨b, e1, e2, e3⟩ => ⟨b, e1, fun hb a _ => e2 hb, fun hb => e3 hb⟩, h0 f, hc, h⟩
end
section
variable {T : Tb} {X : Cx} {W : WX} {pos p p2 p3 pos' pos2 apos cpos lpos : Pos} {o body : Expr} {K : PySem.W.Frag} {G : Gh} {ρ ρ2 : En} {σ σ2 : L2.St} {H H' : Hp} {C CS : Addr} {A A' : RA} {R R' : Reg} {i : Nat} {D : Ends} {r1 r2 : Str}
/-- the lambda's reading tells which it is; nothing changes -/
def wToldB (CS : Addr) (r1 r2 : Str) (w : PW) : PW := fun ρ Q _ => w ρ (fun _ => Q (.str r2)) (fun x => x.cls = CS ∧ Q (.str r1))
theorem de_toldB {x a : Str} {g c P cg : Addr} {k : Nat} {stg : Stmt} {fdg : FuncData} {Ng : List Str} {params : Arguments} {scope : Scope} {w : PW} (hgl : Gl X x) (hmg : X.mg x = some (.ref g)) (F : FunC X.K x stg g cg fdg)
    (hb : L2.Binds X.K fdg [a] []) (Sg : FnScope Ng [a] (defScope stg)) (hNg : Ng[0]? = some a) (hva : Vis (defScope stg) a) (hG : GivesTo X Ng x (defScope stg) g (.ref cg) (defBody stg) a (X.env.qual ++ "<lambda>") (TToldB X.K CS r1 r2)) (hex : PySem.W.exmOne X.K (.ref CS) (.ref CS) = some true)
    (B : TabB X.base X.mg c P) (hcode : X.env.code = .ref c) (hmT : (P, X.env.qual ++ "<lambda>") ∈ T.tl) (hu : ∀ p ∈ T.tl, p.1 = P → p.2 = X.env.qual ++ "<lambda>") (hnt : P ∉ T.tg ++ T.tn) (hr : Room (k + 2) X.A) (L : LamS X.env.scope scope) (hdef : defaultsOf params X.env = ([], []))
    (hbind : ∀ (q : Str) (cl : List (Str × Addr)) (pm cv ctv : Value), bindArgs (PySem.W.kla_fn "<lambda>" q params body scope cl pm cv ctv) ⟨[], []⟩ = pure [])
    (hbody : ∀ (A : Around) (outer : List Env) (s : Shared) (H : Hp) (E : XK) (f c' : Addr), Room k (A.deeper (lamEnv X scope s.heap.objs.size f c')) → DE T (lamCx X A outer s H E scope f c') (fun cls d _ H => E cls d H) body w)
    (hdb : (x == ("__debug__" : Str)) = false := by decide) (hd : (a == ("__debug__" : Str)) = false := by decide) (hcd : (a == ("__classdict__" : Str)) = false := by decide) : DE T X W (.Call (.Name x p) [.Lambda params body scope lpos] [] pos) (wToldB CS r1 r2 w) := by
  have mw : Mono w := (hbody X.A X.outer X.s_0 X.H_0 (fun _ _ _ => False) 0 0 ((hr.deeper (k := k + 1) _).mono (Nat.le_succ _))).mono
  exact ⟨pe_mono (pe_lamB (T := T) (t := fun E => lift T X.K (fun cls d _ H => E cls d H) w) hgl hmg F hb Sg hNg hva hG B hcode hmT hu hnt hr L hdef hbind (fun A outer s H E f c' hr => (hbody A outer s H E f c' hr).pe) hdb hd hcd) fun σ H Q q => by
    obtain ⟨G, ρ, r, q⟩ := q
    refine ⟨r.tab, fun H1 e t1 => ?_⟩
    have r1 := r.extB (r.tab.l _ hmT) e t1
    refine ⟨G, ρ, r1, mw _ _ _ _ _ (fun d hd v H' r' a => hd _ H' r' (.str _)) (fun x hx H' cls dd r' ex => ?_) q⟩
    obtain ⟨hc, hQ⟩ := hx
    exact ⟨true, by rw [ex.1, hc]; exact hex, fun _ => hQ _ H' r' (.str _), fun z => by cases z⟩,
   fun ρ Q Q' E E' hq he q => mw _ _ _ _ _ (fun _ z => hq _ z) (fun x ⟨h1, h2⟩ => ⟨h1, hq _ h2⟩) q⟩
/-- x = told(lambda: book.m()), the register changes -/
def sToldG (m i : Nat) (r2 : Str) (c : CG) : SW := fun ρ D => ∃ A R, ρ[i]? = some (.rg A R) ∧ ByE i ρ ∧ c A R [] (fun A' R' => A'.b = A.b ∧ D.nx ((ρ.set i (.rg A' R')).set m (.sh (.str r2))))
theorem ds_toldG {pl : Cx → Sem Bool} {x a nm : Str} {g c P cg fm : Addr} {k km m i : Nat} {stg : Stmt} {fdg fdm : FuncData} {Ng psm : List Str} {params : Arguments} {scope : Scope} {cm : CG} {mn : Str} (RC : RgC X.K C) (hN : X.N.Nodup) (hm : X.N[m]? = some nm) (hnm : Loc X.env.scope nm) (hgl : Gl X x) (hmg : X.mg x = some (.ref g)) (F : FunC X.K x stg g cg fdg)
    (hb : L2.Binds X.K fdg [a] []) (Sg : FnScope Ng [a] (defScope stg)) (hNg : Ng[0]? = some a) (hva : Vis (defScope stg) a) (hG : GivesTo X Ng x (defScope stg) g (.ref cg) (defBody stg) a (X.env.qual ++ "<lambda>") (TToldB X.K CS r1 r2))
    (B : TabB X.base X.mg c P) (hcode : X.env.code = .ref c) (hmT : (P, X.env.qual ++ "<lambda>") ∈ T.tl) (hu : ∀ p ∈ T.tl, p.1 = P → p.2 = X.env.qual ++ "<lambda>") (hnt : P ∉ T.tg ++ T.tn) (hr : Room (k + 2) X.A) (L : LamS X.env.scope scope) (hdef : defaultsOf params X.env = ([], []))
    (hbind : ∀ (q : Str) (cl : List (Str × Addr)) (pm cv ctv : Value), bindArgs (PySem.W.kla_fn "<lambda>" q params (.Call (.Attribute o mn apos) [] [] cpos) scope cl pm cv ctv) ⟨[], []⟩ = pure [])
    (hmth : Meth X.K C mn fm) (hl : ∀ r t d u, (rgF r t d u).lookup mn = none) (Fm : FnOk X.prog X.w X.K X.mg X.base (L2.CX X.prog X.w) km fm fdm psm (spG T X.K 1 cm)) (mc : MonoG cm) (hbm : Binds X.K fdm psm []) (hkm : ∀ A : Around, Room k A → Room km A)
    (ho : ∀ (A : Around) (outer : List Env) (s : Shared) (H : Hp) (E : XK) (f c' : Addr), PE (lamCx X A outer s H E scope f c') o (tVar i) ∧ Takes (lamCx X A outer s H E scope f c') (fun cls d _ H => E cls d H) ∧ ∃ pl, eval (.Call (.Attribute o mn apos) [] [] cpos) (lamCx X A outer s H E scope f c').env = (do
      let ov ← eval o (lamCx X A outer s H E scope f c').env
      standAt apos.atName
      let q ← holding [ov] (getMethod ov mn pl)
      callWith cpos q.1 q.2 (backTo cpos (starEach [] (lamCx X A outer s H E scope f c').env)) (backToKw cpos (keywordEach [] (lamCx X A outer s H E scope f c').env))))
    (hs : swapsWith (.Call (.Name x p) [.Lambda params (.Call (.Attribute o mn apos) [] [] cpos) scope lpos] [] pos) (some (.Name nm pos')) pos2.line X.env = pure false := by rfl)
    (hf : X.fn nm = true ∨ X.env.scope.names.lookup nm = some .local := by first | exact .inl rfl | exact .inr rfl | assumption)
    (hdb : (x == ("__debug__" : Str)) = false := by decide) (hd : (a == ("__debug__" : Str)) = false := by decide) (hcd : (a == ("__classdict__" : Str)) = false := by decide) :
    DS T X W (.Assign [.Name nm pos'] (.Call (.Name x p) [.Lambda params (.Call (.Attribute o mn apos) [] [] cpos) scope lpos] [] pos) pos2) (sToldG m i r2 cm) :=
  ⟨ps_mono (ps_set hN hm hnm (pe_lamB (T := T) (t := fun E σ H Q => tVar i σ H fun x H1 => ∃ a dx fs, x = .ref a ∧ H1 a = some (.ins C dx fs) ∧ fs.lookup mn = none ∧ spG T X.K 1 cm [x] H1 Q E) hgl hmg F hb Sg hNg hva hG B hcode hmT hu hnt hr L hdef hbind (fun A outer s H E f c' hr => by
      obtain ⟨h1, h2, pl, h3⟩ := ho A outer s H E f c'
      exact pe_meth0 (X := lamCx X A outer s H E scope f c') (E := fun _ => E) h1 RC.cl hmth Fm (hkm _ hr) hbm (fun σ => passAt h2 σ) h3) hdb hd hcd) hs hf) fun D σ H q => by
    obtain ⟨G, ρ, r, fa, A, R, hi, by_, q⟩ := q
    refine ⟨r.tab, fun H1 e t1 => ?_⟩
    have r1 := r.extB (r.tab.l _ hmT) e t1
    obtain ⟨h1, own, ap, hR⟩ := r1.rgAt hi
    obtain ⟨dx, r', g1, _⟩ := hR.insC RC
    refine ⟨_, h1, A.b, dx, _, rfl, g1, hl _ _ _ _, ?_⟩
    obtain ⟨r2, no⟩ := args_repG r1 hi .nil
    refine ⟨G.O, A, R, [], rfl, r2, no, mc _ _ _ _ _ (fun A' R' hq => ⟨hq.1, fun H' bk => ?_⟩) q⟩
    obtain ⟨r3, fa3⟩ := r1.fromG fa hi by_ hq.1 bk
    exact hq.2 _ H' _ (r3.setSh (.str _)) fa3.setSh,
   fun ρ D D' l ⟨A, R, h1, h2, h3⟩ => ⟨A, R, h1, h2, mc _ _ _ _ _ (fun A' R' hq => ⟨hq.1, l.nx _ hq.2⟩) h3⟩⟩
/-- either way -/
def sOr (u v : SW) : SW := fun ρ D => u ρ D ∨ v ρ D
theorem ds_or {st : Stmt} {u v : SW} (h1 : DS T X W st u) (h2 : DS T X W st v) : DS T X W st (sOr u v) :=
  ⟨⟨fun pins s σ H D I ⟨G, ρ, r, fa, q⟩ => q.elim (fun q => h1.ps.run pins s σ H D I ⟨G, ρ, r, fa, q⟩) fun q => h2.ps.run pins s σ H D I ⟨G, ρ, r, fa, q⟩⟩, fun ρ D D' l q => q.elim (fun q => .inl (h1.mono _ _ _ l q)) fun q => .inr (h2.mono _ _ _ l q)⟩
end
end PL
set_option Elab.async false
set_option linter.all false
set_option maxRecDepth 100000
set_option maxHeartbeats 2000000
namespace PL
open PySem PySem.Spec PyProof.Rows L2 LamX
abbrev Cells := List (Addr × Obj)
def hidC (cs : Cells) (H : Hp) : Hp := fun b => match cs.lookup b with
  | some _ => none
  | none => H b
def retC (cs : Cells) (H : Hp) : Hp := fun b => match cs.lookup b with
  | some ob => some (.frz ob (.own b))
  | none => H b
def CellsT (cs : Cells) (H : Hp) : Prop := ∀ c ob, cs.lookup c = some ob → H c = some (.frz ob (.own c))
section
variable {cs : Cells} {H H' : Hp} {h h' : Heap} {P : Program} {w : World} {b : Addr} {o : HO} {fs ex : List Addr}
theorem hidC_in {ob : Obj} (e : cs.lookup b = some ob) : hidC cs H b = none := by unfold hidC; rw [e]
theorem hidC_out (e : cs.lookup b = none) : hidC cs H b = H b := by unfold hidC; rw [e]
theorem retC_in {ob : Obj} (e : cs.lookup b = some ob) : retC cs H b = some (.frz ob (.own b)) := by unfold retC; rw [e]
theorem retC_out (e : cs.lookup b = none) : retC cs H b = H b := by unfold retC; rw [e]
theorem hidC_some (e : hidC cs H b = some o) : cs.lookup b = none ∧ H b = some o := by
  cases z : cs.lookup b with
  | some ob => rw [hidC_in z] at e; cases e
  | none => rw [hidC_out z] at e; exact ⟨rfl, e⟩
theorem CellsT.out (ct : CellsT cs H) (e : H b = some o) (n : ∀ ob, o ≠ .frz ob (.own b)) : cs.lookup b = none := by
  cases z : cs.lookup b with
  | none => rfl
  | some ob => rw [ct _ _ z] at e; cases e; exact absurd rfl (n _)
theorem CellsT.none (ct : CellsT cs H) (e : H b = none) : cs.lookup b = none := by
  cases z : cs.lookup b with
  | none => rfl
  | some ob => rw [ct _ _ z] at e; cases e
theorem hidC_hok (ok : HOk P w H h) (ct : CellsT cs H) : HOk P w (hidC cs H) h := fun a o e => by
  obtain ⟨e1, e2⟩ := hidC_some e
  exact (ok a o e2).stay (fun _ _ _ q => q) (fun b q => by rw [hidC_out (ct.out q fun ob z => by cases z)]; exact q) fun b xs q => by rw [hidC_out (ct.out q fun ob z => by cases z)]; exact q
theorem retC_hok (ok : HOk P w H' h') (hc : ∀ c ob, cs.lookup c = some ob → H' c = none ∧ h'.get? c = some ob) : HOk P w (retC cs H') h' := fun a o e => by
  have kp : ∀ {b u}, H' b = some u → retC cs H' b = some u := fun {b u} q => by
    cases z : cs.lookup b with
    | none => rw [retC_out z]; exact q
    | some ob => rw [(hc _ _ z).1] at q; cases q
  cases z : cs.lookup a with
  | some ob =>
    rw [retC_in z] at e
    cases e
    exact ⟨(hc _ _ z).2, _, (hc _ _ z).2⟩
  | none =>
    rw [retC_out z] at e
    exact (ok a o e).stay (fun _ _ _ q => q) (fun b q => kp q) fun b xs q => kp q
theorem retC_un (u : Un fs ex (hidC cs H) H' h h') (ok : HOk P w H h) (ct : CellsT cs H) (nf : ∀ c ob, cs.lookup c = some ob → c ∉ fs ∧ c ∉ ex) : Un fs ex H (retC cs H') h h' ∧ ∀ c ob, cs.lookup c = some ob → H' c = none ∧ h'.get? c = some ob := by
  have cell : ∀ c ob, cs.lookup c = some ob → H' c = none ∧ h'.get? c = some ob := fun c ob z => by
    obtain ⟨e1, _⟩ := ok c _ (ct c ob z)
    exact ⟨u.free c ob e1 (hidC_in z) (nf c ob z).2, u.keep c ob e1 (hidC_in z) (nf c ob z).1 (nf c ob z).2⟩
  have kp : ∀ {b v}, H' b = some v → retC cs H' b = some v := fun {b v} q => by
    cases z : cs.lookup b with
    | none => rw [retC_out z]; exact q
    | some ob => rw [(cell _ _ z).1] at q; cases q
  have nn : ∀ {b}, H b = none → hidC cs H b = none := fun {b} n => by rw [hidC_out (ct.none n)]; exact n
  refine ⟨⟨fun b ob e n => u.keep b ob e (nn n), fun b ob e n => u.slot b ob e (nn n), fun b ob e n hx => ?_, u.there, fun b xs e => kp (u.tups b xs (by rw [hidC_out (ct.out e fun ob z => by cases z)]; exact e)), fun b ob v e => ?_, fun b ps e => ?_⟩, cell⟩
  · rw [retC_out (ct.none n)]
    exact u.free b ob e (nn n) hx
  · cases z : cs.lookup b with
    | none => rw [retC_out z]; exact u.frzs b ob v (by rw [hidC_out z]; exact e)
    | some ob' =>
      rw [ct _ _ z] at e
      cases e
      exact retC_in z
  · obtain ⟨more, e2⟩ := u.tbls b ps (by rw [hidC_out (ct.out e fun ob z => by cases z)]; exact e)
    exact ⟨more, kp e2⟩
theorem env0_hid {K : PySem.W.Frag} {mg : Str → Option Value} {base : Heap} {A : Around} {outer : List Env} {s : Shared} (e0 : Env0 P w K mg base A outer s H) (ct : CellsT cs H) : Env0 P w K mg base A outer s (hidC cs H) :=
  ⟨e0.frames, e0.mod, fun b o e => ⟨(e0.bs b o e).1, by rw [hidC_out (ct.none (e0.bs b o e).2)]; exact (e0.bs b o e).2⟩, e0.bsz, e0.funs, fun b hb => by rw [hidC_out (ct.none (e0.frf b hb))]; exact e0.frf b hb, hidC_hok e0.hok ct, e0.bare⟩
theorem cx_ret {outer : List Env} {s s' : Shared} {E : XK} {u : Value} (e0 : HOk P w H s.heap) (frf : ∀ b ∈ frs outer, H b = none) (ct : CellsT cs H) (x : L2.CX P w outer (hidC cs H) s (fun cls d H' => (∀ c ob, cs.lookup c = some ob → H' c = none) → E cls d (retC cs H')) u s') : L2.CX P w outer H s E u s' := by
  obtain ⟨a, B, H', cls, d, rfl, fl, hok, ub, na, os, ag, hE⟩ := x
  have nf : ∀ c ob, cs.lookup c = some ob → c ∉ frs outer := fun c ob z y => absurd (frf c y) (by rw [ct _ _ z]; exact fun z => by cases z)
  have cell : ∀ c ob, cs.lookup c = some ob → H' c = none ∧ B.get? c = some ob := fun c ob z => by
    obtain ⟨e1, _⟩ := e0 c _ (ct c ob z)
    exact ⟨ub.free c ob e1 (hidC_in z), ub.keep c ob e1 (hidC_in z) (nf c ob z)⟩
  have kp : ∀ {b v}, H' b = some v → retC cs H' b = some v := fun {b v} q => by
    cases z : cs.lookup b with
    | none => rw [retC_out z]; exact q
    | some ob => rw [(cell _ _ z).1] at q; cases q
  have nn : ∀ {b}, H b = none → hidC cs H b = none := fun {b} n => by rw [hidC_out (ct.none n)]; exact n
  have nB : B.get? a = none := fl.2.1
  refine ⟨a, B, retC cs H', cls, d, rfl, fl, retC_hok hok cell, ⟨fun b o e n => ub.keep b o e (nn n), ub.slot, fun b o e n => by rw [retC_out (ct.none n)]; exact ub.free b o e (nn n), ub.there, fun b xs e => kp (ub.tups b xs (by rw [hidC_out (ct.out e fun ob z => by cases z)]; exact e)), fun b ob v e => ?_, fun b ps e => ?_⟩, ?_, os, ag, hE fun c ob z => (cell c ob z).1⟩
  · cases z : cs.lookup b with
    | none => rw [retC_out z]; exact ub.frzs b ob v (by rw [hidC_out z]; exact e)
    | some ob' =>
      rw [ct _ _ z] at e
      cases e
      exact retC_in z
  · obtain ⟨more, e2⟩ := ub.tbls b ps (by rw [hidC_out (ct.out e fun ob z => by cases z)]; exact e)
    exact ⟨more, kp e2⟩
  · cases z : cs.lookup a with
    | none => rw [retC_out z]; exact na
    | some ob => rw [(cell _ _ z).2] at nB; cases nB
end
/-- what the lambda's cells hold -/
structure CloZ (Xd : Cx) (scope : Scope) (cs : Cells) (σL : L2.St) : Prop where
  inj : ∀ x y c, Xd.env.cells.lookup x = some c → Xd.env.cells.lookup y = some c → x = y
  look : ∀ y, (y, NameKind.free) ∈ scope.names → ∃ c ob u, Xd.env.cells.lookup y = some c ∧ cs.lookup c = some ob ∧ ob.data = .cell (some u) ∧ ∀ (i : Nat) (v : V), Xd.N[i]? = some y → σL[i]? = some (some v) → RelV v u
  len : σL.length = Xd.N.length
/-- no parameter, no name of its own -/
structure LamZ (scope : Scope) : Prop where
  kind : scope.kind = .function
  co : scope.isCoroutine = false
  gen : scope.isGenerator = false
  own : ∀ y ∈ scope.names, y.2 ≠ .local ∧ y.2 ≠ .cell
section
variable {X : Cx} {pins : List (Addr × Obj)} {σ σL : L2.St} {H HZ : Hp} {s s1 : Shared} {cs : Cells}
theorem lam_startZ {Xd : Cx} {A : Around} {outer : List Env} {E : XK} {scope : Scope} {f c' : Addr} {h₁ : Heap} {tk : Nat} (L : LamZ scope) (cz : CloZ Xd scope cs σL) (e1 : Xd.prog = X.prog) (e2 : Xd.w = X.w) (e3 : Xd.K = X.K) (e4 : Xd.mg = X.mg) (e5 : Xd.base = X.base) (e0 : Env0 X.prog X.w X.K X.mg X.base A outer s1 HZ) (ct : CellsT cs HZ) (hd : A.handled = none)
    (hns : h₁.Ns s1.heap.objs.size fun y => ([] : List (Str × Value)).reverse.lookup y) (kp : ∀ b o, s1.heap.get? b = some o → h₁.get? b = some o) :
    Inv (lamCx Xd A outer s1 (hidC cs HZ) E scope f c') [] σL (hidC cs HZ) { s1 with heap := h₁, toks := tk } := by
  have cm : ∀ {y c}, (cloFrom Xd.env.cells scope.names []).lookup y = some c → (y, NameKind.free) ∈ scope.names ∧ Xd.env.cells.lookup y = some c := fun {y c} e => by
    rcases cloFrom_mem (PySem.mem_of_lookup e) with hm | ⟨h1, h2⟩
    · cases hm
    · obtain ⟨c1, ob, u, hc, _⟩ := cz.look _ h1
      have e2 : c = c1 := by rw [h2, hc] <;> rfl
      rw [e2]
      exact ⟨h1, hc⟩
  have look : ∀ {y}, scope.names.lookup y = some .free → ∃ c, (cloFrom Xd.env.cells scope.names []).lookup y = some c := fun {y} hl => by
    have hy : (y, NameKind.free) ∈ scope.names := PySem.mem_of_lookup hl
    exact mem_lookup (cloFrom_has (cells := Xd.env.cells) (acc := []) hy)
  have cellAt : ∀ {y c}, (cloFrom Xd.env.cells scope.names []).lookup y = some c → ∃ ob u, cs.lookup c = some ob ∧ h₁.IsCell c (some u) ∧ ∀ (i : Nat) (v : V), Xd.N[i]? = some y → σL[i]? = some (some v) → RelV v u := fun {y c} e => by
    obtain ⟨h1, h2⟩ := cm e
    obtain ⟨c1, ob, u, k1, k2, k3, k4⟩ := cz.look y h1
    rw [h2] at k1
    cases k1
    obtain ⟨g1, _⟩ := e0.hok c _ (ct c ob k2)
    exact ⟨ob, u, k2, ⟨ob, kp _ _ g1, k3⟩, k4⟩
  have e0' := env0_hid e0 ct
  have noA : ∀ b : Addr, b ∉ (lamCx Xd A outer s1 (hidC cs HZ) E scope f c').ex := fun b z => absurd (show b ∈ ([] : List Addr) from z) (by simp)
  refine ⟨⟨by show Mod Xd.K Xd.mg Xd.base; rw [e3, e4, e5]; exact e0'.mod, L.kind, rfl, rfl, Nat.le_refl _, fun y z c k1 k2 => cz.inj y z c (cm k1).2 (cm k2).2, fun y hy => ?_, fun y c z _ => ?_, fun _ => hd, Around.frames_deeper e0'.frames, .inr ⟨rfl, rfl⟩, fun b z => absurd z (noA b), by show ∀ b o, Xd.base.get? b = some o → _; rw [e5]; exact e0'.bs, by show Xd.base.objs.size ≤ _; rw [e5]; exact e0'.bsz, fun b _ _ => noA b,
      fun b z => absurd z (noA b), by show s1.heap.FunFrames Xd.base outer; rw [e5]; exact e0'.funs, e0'.frf⟩,
    rfl, e0'.bare, Un.kept kp, ⟨_, hns, fun i y v k1 k2 k3 => ?_⟩, fun y c e => ?_, e0'.hok.fresh (Nat.le_refl _), fun y c e => ?_, fun q hq => absurd (show q ∈ ([] : List (Addr × Obj)) ++ [] from hq) (by simp), by show HOk Xd.prog Xd.w _ _; rw [e1, e2]; exact e0'.hok.kept kp, cz.len⟩
  · have hy : scope.names.lookup y = some .cell ∨ scope.names.lookup y = some .free := hy
    rcases hy with hy | hy
    · exact absurd rfl (L.own _ (PySem.mem_of_lookup hy)).2
    · exact look hy
  · have z : false = true := z
    cases z
  · have k3 : Vis scope y := k3
    rcases k3 with k | k | k
    · exact absurd rfl (L.own _ (PySem.mem_of_lookup k)).1
    · exact absurd rfl (L.own _ (PySem.mem_of_lookup k)).2
    · obtain ⟨c2, h2⟩ := look k
      obtain ⟨ob, u, g1, g2, g3⟩ := cellAt h2
      exact ⟨u, g3 i v k1 k2, .inr ⟨.inr k, c2, h2, g2⟩⟩
  · obtain ⟨ob, u, g1, g2, g3⟩ := cellAt e
    exact ⟨_, g2⟩
  · obtain ⟨ob, u, g1, g2, g3⟩ := cellAt e
    exact hidC_in g1
/-- the function of the lambda stands at f, its code object at c' -/
def FnZ (Xd : Cx) (H : Hp) (f c' : Addr) (params : Arguments) (body : Expr) (scope : Scope) : Prop :=
  (∃ pm ctv, H f = some (.frz (PySem.W.kla_obj "<lambda>" (Xd.env.qual ++ "<lambda>") params body scope (cloFrom Xd.env.cells scope.names []) pm c' ctv) (.own f))) ∧ H c' = some (CodeO c' (Xd.env.qual ++ "<lambda>"))
def CellsN (cs : Cells) (H : Hp) : Prop := ∀ c ob, cs.lookup c = some ob → H c = none
/-- what the call of it asks -/
def tlZ (Xd : Cx) (cs : Cells) (σL : L2.St) (f c' : Addr) (params : Arguments) (body : Expr) (scope : Scope) (t : XK → TE) : XK → Hp → VK → Prop := fun E HZ Q => FnZ Xd HZ f c' params body scope ∧ CellsT cs HZ ∧ t (fun cls d H' => CellsN cs H' → E cls d (retC cs H')) σL (hidC cs HZ) fun v H' => CellsN cs H' → Q v (retC cs H')
theorem act_clo {Xd : Cx} {CXg : CXT} {Eg : XK} {Ng : List Str} {qg : Str} {sg : Scope} {g f c' : Addr} {cdg : Value} {k i : Nat} {a : Str} {pn : List (Addr × Obj)} {xe : Value → Shared → Prop} {W : WX} {E : XK} {t : XK → TE} {p1 p2 : Pos} {params : Arguments} {body : Expr} {scope : Scope} (I : Inv X pins σ H s) (L : LamZ scope) (cz : CloZ Xd scope cs σL) (e1 : Xd.prog = X.prog) (e2 : Xd.w = X.w) (e3 : Xd.K = X.K) (e4 : Xd.mg = X.mg) (e5 : Xd.base = X.base)
    (hbind : ∀ (q : Str) (cl : List (Str × Addr)) (pm cv ctv : Value), bindArgs (PySem.W.kla_fn "<lambda>" q params body scope cl pm cv ctv) ⟨[], []⟩ = pure [])
    (tk : Takes ((cxOf CXg X.prog X.w X.K X.mg X.base Ng qg sg g cdg X.A X.stack s H Eg).tr pn xe) W) (hW : ∀ cls d σ' H', E cls d H' → W cls d σ' H') (hr : Room (k + 1) (X.A.deeper (envOfC qg sg s.heap.objs.size g cdg)))
    (hbody : ∀ (A : Around) (outer : List Env) (s : Shared) (H : Hp) (E : XK), Room k (A.deeper (lamEnv Xd scope s.heap.objs.size f c')) → PE (lamCx Xd A outer s H E scope f c') body (t E)) (hN : Ng[i]? = some a) (hv : Vis sg a) (hd : (a == ("__debug__" : Str)) = false := by decide) (hcd : (a == ("__classdict__" : Str)) = false := by decide) :
    PE ((cxOf CXg X.prog X.w X.K X.mg X.base Ng qg sg g cdg X.A X.stack s H Eg).tr pn xe) (.Call (.Name a p1) [] [] p2) (fun σZ HZ Q => σZ[i]? = some (some (.ref f)) ∧ HZ c' = some (CodeO c' (Xd.env.qual ++ "<lambda>")) ∧ tlZ Xd cs σL f c' params body scope t E HZ Q) := by
  obtain ⟨dprog, dw, dK, dmg, dbase, dA, dN, ds, dH, denv, dout, dst, dex, dfn, dcalm, dpn, dxe⟩ := Xd
  dsimp only at e1 e2 e3 e4 e5
  subst e1 e2 e3 e4 e5
  exact ⟨fun pz sz σz Hz Q Iz ⟨q1, q2, ⟨⟨pm, ctv, fz⟩, _⟩, ct, q3⟩ => by
    refine wpAny_Call_Name_kw (thn ((pe_var (pos := p1) (i := i) hN hv hd hcd).run pz sz σz Hz (fun v K1 => v = .ref f ∧ K1 = Hz) Iz ⟨.ref f, q1, rfl, rfl⟩) fun u s1 ⟨v, H1, I1, r1, ev, eH⟩ => ?_)
    subst ev eH
    obtain rfl : u = Value.ref f := r1
    obtain ⟨at1, _⟩ := I1.hok f _ fz
    obtain ⟨⟨oc, vs, t', co1, co2, co3⟩, _, _⟩ := I1.hok c' _ q2
    have frf : ∀ b ∈ frs (envOfC qg sg s.heap.objs.size g cdg :: X.stack), H1 b = none := I1.env0.frf
    have run : codeAny (model X.prog X.w) (X.A.deeper (envOfC qg sg s.heap.objs.size g cdg)) (.call (.ref f) ⟨[], []⟩) (CR (L2.CX X.prog X.w) (envOfC qg sg s.heap.objs.size g cdg :: X.stack) X.prog X.w H1 s1 Q E) s1 := by
      refine PySem.W.kla_callFunE hr.depth at1 rfl L.co L.gen rfl ⟨c', oc, vs, t', rfl, co1, co2, co3⟩ ?_
      rw [hbind]
      refine wpAny_pure (wpAny_newFunctionEnv (fun y hy => (L.own y hy).2) (fun y hy => absurd hy (by simp)) (fun h₁ hns hsb => ⟨I1.nolimit.fresh _ hsb, ?_⟩) L.kind)
      show codeAny _ _ (.expr body (lamEnv ⟨X.prog, X.w, X.K, X.mg, X.base, dA, dN, ds, dH, denv, dout, dst, dex, dfn, dcalm, dpn, dxe⟩ scope s1.heap.objs.size f c')) _ _
      have J : Inv (lamCx ⟨X.prog, X.w, X.K, X.mg, X.base, dA, dN, ds, dH, denv, dout, dst, dex, dfn, dcalm, dpn, dxe⟩ (X.A.deeper (envOfC qg sg s.heap.objs.size g cdg)) (envOfC qg sg s.heap.objs.size g cdg :: X.stack) s1 (hidC cs H1) (fun cls d H' => CellsN cs H' → E cls d (retC cs H')) scope f c') [] σL (hidC cs H1) { s1 with heap := h₁, toks := s1.toks + ([] : List (Str × Value)).length } :=
        lam_startZ (X := X) L cz rfl rfl rfl rfl rfl I1.env0 ct hr.hd hns fun b o e => hsb.extBut b o (Nat.ne_of_lt (Heap.lt_size e)) (Heap.get?_push_of_some _ e)
      have nf : ∀ c ob, cs.lookup c = some ob → c ∉ frs (envOfC qg sg s.heap.objs.size g cdg :: X.stack) ∧ c ∉ ([] : List Addr) := fun c ob z => ⟨fun y => absurd (frf c y) (by rw [ct _ _ z]; exact fun z => by cases z), fun y => absurd y (by simp)⟩
      have body := (hbody _ _ s1 (hidC cs H1) (fun cls d H' => CellsN cs H' → E cls d (retC cs H')) (hr.deeper _)).run [] _ _ (hidC cs H1) (fun v H' => CellsN cs H' → Q v (retC cs H')) J q3
      refine PySem.W.kla_codeExpr (wpAny_mono body (fun v s' ⟨w', H', J', rv, q⟩ => ?_) fun e s' hq => ?_)
      · obtain ⟨u2, cell⟩ := retC_un J'.base I1.hok ct nf
        exact ⟨w', retC cs H', J'.os, J'.bare, u2, retC_hok J'.hok cell, rv, q fun c ob z => (cell c ob z).1⟩
      · exact wpAny_mono hq (fun _ s'' x => cx_ret I1.hok frf ct x) fun e' s'' x => cx_ret I1.hok frf ct x
    have pass : Passes (L2.CX X.prog X.w) ((cxOf CXg X.prog X.w X.K X.mg X.base Ng qg sg g cdg X.A X.stack s H Eg).tr pn xe) E := passes_call tk hW
    refine PySem.W.callWith_F0 ⟨_, _, _, _, at1⟩ (wpAny_call (codeAny_mono run fun r s' hq => ?_))
    match r, hq with
    | .error e, hq => exact pass pz σz H1 s1 e s' I1 hq
    | .ok (.ret u), hq => exact I1.after hq
    | .ok .next, hq => exact False.elim hq
    | .ok .brk, hq => exact False.elim hq
    | .ok .cont, hq => exact False.elim hq⟩
end
end PL
set_option Elab.async false
set_option linter.all false
set_option maxRecDepth 100000
set_option maxHeartbeats 2000000
namespace PL
open PySem PySem.Spec PyProof.Rows L2 LamX
def SPZ (X : Cx) (pins : List (Addr × Obj)) (D : V → L2.St → Hp → Prop) (f : Flow) (s' : Shared) : Prop :=
  match f with
  | .ret u => ∃ v σ' H', Inv X pins σ' H' s' ∧ RelV v u ∧ D v σ' H'
  | _ => False
abbrev TSZ := (V → L2.St → Hp → Prop) → L2.St → Hp → Prop
structure PZs (X : Cx) (sts : List Stmt) (t : TSZ) : Prop where
  run : ∀ (pins : List (Addr × Obj)) (s : Shared) (σ : L2.St) (H : Hp) (D : V → L2.St → Hp → Prop), Inv X pins σ H s → t D σ H → wpAny (model X.prog X.w) X.A (execs sts X.env) (SPZ X pins D) X.xe s
section
variable {X : Cx} {st : Stmt} {rest sa : List Stmt} {c e : Expr} {pos : Pos}
theorem pz_cons {t : TS} {u : TSZ} (h1 : PS X st t) (h2 : PZs X rest u) : PZs X (st :: rest) (fun D σ H => t { nx := fun σ' H' => u D σ' H', rt := fun _ _ => False } σ H) := by
  refine ⟨fun pins s σ H D I h => ?_⟩
  refine wpAny_execs_cons (thn (h1.run pins s σ H _ I h) fun f s1 q => ?_)
  cases f with
  | next =>
    obtain ⟨σ', H', I', q⟩ := q
    exact h2.run pins s1 σ' H' D I' q
  | ret v => obtain ⟨_, _, _, _, _, z⟩ := q; exact z.elim
  | brk => obtain ⟨_, _, _, z⟩ := q; exact z.elim
  | cont => obtain ⟨_, _, _, z⟩ := q; exact z.elim
theorem pz_if {tc : TT} {t u : TSZ} (hc : PT X c tc) (ha : PZs X sa t) (hb : PZs X rest u) : PZs X (.If c sa [] pos :: rest) (fun D σ H => tc σ H fun b H1 => if b = true then t D σ H1 else u D σ H1) := by
  refine ⟨fun pins s σ H D I h => ?_⟩
  refine wpAny_execs_cons (wpAny_If (thn (hc.run pins s σ H _ I h) fun d s1 ⟨H1, I1, q1⟩ => ?_))
  cases d with
  | true =>
    refine thn (ha.run pins s1 σ H1 D I1 q1) fun f s2 q => ?_
    cases f with
    | ret v => exact q
    | next => exact q.elim
    | brk => exact q.elim
    | cont => exact q.elim
  | false => exact wpAny_execs_nil (hb.run pins s1 σ H1 D I1 q1)
theorem pz_ret {te : TE} (he : PE X e te) : PZs X [.Return (some e) pos] (fun D σ H => te σ H fun v H' => D v σ H') := by
  refine ⟨fun pins s σ H D I h => ?_⟩
  exact wpAny_execs_cons (wpAny_Return_some (thn (he.run pins s σ H _ I h) fun v s1 ⟨x, H1, I1, r1, q1⟩ => ⟨x, σ, H1, I1, r1, q1⟩))
end
abbrev ZK := En → PyData → LamD → Prop
abbrev SZ := En → ZK → Prop
def MonoZ (w : SZ) : Prop := ∀ ρ Z Z', (∀ ρ' d l, Z ρ' d l → Z' ρ' d l) → w ρ Z → w ρ Z'
section
variable (T : Tb) (X : Cx) (n1 : Nat)
def zEnd (Hb : Hp) (fl : List (Addr × HO)) (D : V → L2.St → Hp → Prop) : ZK := fun ρ' d2 l => ∀ v1 v2 f c' p σ' H' O', Rep T X.K ⟨Hb, O', fl⟩ ρ' σ' H' → σ'[n1]? = some (some v1) → Da X.K (hide O' H') v2 d2 → FnAt X H' f c' l.params l.body l.scope → LamOk X l → H' p = some (.tup [v1, v2, .ref f]) → D (.ref p) σ' H'
def liftZ (w : SZ) : TSZ := fun D σ H => ∃ G ρ, Rep T X.K G ρ σ H ∧ FlApt G.fl ρ σ ∧ w ρ (zEnd T X n1 G.Hb G.fl D)
end
structure DZs (T : Tb) (X : Cx) (n1 : Nat) (sts : List Stmt) (w : SZ) : Prop where
  pz : PZs X sts (liftZ T X n1 w)
  mono : MonoZ w
theorem pz_mono {X : Cx} {sts : List Stmt} {t t' : TSZ} (h : PZs X sts t) (i : ∀ D σ H, t' D σ H → t D σ H) : PZs X sts t' := ⟨fun pins s σ H D I q => h.run pins s σ H D I (i _ _ _ q)⟩
section
variable {T : Tb} {X : Cx} {W : WX} {n1 : Nat} {st : Stmt} {rest sa : List Stmt} {c e : Expr} {pos p1 p2 lpos : Pos} {K : PySem.W.Frag} {G : Gh} {ρ : En} {σ : L2.St} {H H' : Hp}
def zSeq (u : SW) (w : SZ) : SZ := fun ρ Z => u ρ { nx := fun ρ' => w ρ' Z, rt := fun _ => False }
theorem dz_cons {u : SW} {w : SZ} (h1 : DS T X W st u) (h2 : DZs T X n1 rest w) : DZs T X n1 (st :: rest) (zSeq u w) :=
  ⟨pz_mono (pz_cons h1.ps h2.pz) fun D σ H q => by
    obtain ⟨G, ρ, r, fa, q⟩ := q
    refine ⟨G, ρ, r, fa, h1.mono ρ { nx := fun ρ' => w ρ' (zEnd T X n1 G.Hb G.fl D), rt := fun _ => False } _ ⟨fun ρ' h σ' H' O' r' fa' => ?_, fun _ h => h.elim, fun _ h => h.elim, fun _ h => h.elim, fun _ h => h.elim, fun _ h => h.elim⟩ q⟩
    exact ⟨⟨G.Hb, O', G.fl⟩, ρ', r', fa', h⟩,
   fun ρ Z Z' hz q => h1.mono ρ { nx := fun ρ' => w ρ' Z, rt := fun _ => False } _ ⟨fun ρ' h => h2.mono _ _ _ hz h, fun _ h => h, fun _ h => h, fun _ h => h, fun _ h => h, fun _ h => h⟩ q⟩
def zIf (t : PWB) (u v : SZ) : SZ := fun ρ Z => t ρ (fun k => if k = true then u ρ Z else v ρ Z) (fun _ => False)
theorem dz_if {t : PWB} {u v : SZ} (hc : DT T X W c t) (ha : DZs T X n1 sa u) (hb : DZs T X n1 rest v) : DZs T X n1 (.If c sa [] pos :: rest) (zIf t u v) :=
  ⟨pz_mono (pz_if hc.pt ha.pz hb.pz) fun D σ H q => by
    obtain ⟨G, ρ, r, fa, q⟩ := q
    refine ⟨G, ρ, r, hc.mono _ _ _ _ _ (fun k hk H' r' => ?_) (fun _ z => z.elim) q⟩
    by_cases z : k = true
    · rw [if_pos z] at hk ⊢; exact ⟨G, ρ, r', fa, hk⟩
    · rw [if_neg z] at hk ⊢; exact ⟨G, ρ, r', fa, hk⟩,
   fun ρ Z Z' hz q => hc.mono _ _ _ _ _ (fun k hk => by
    by_cases z : k = true
    · rw [if_pos z] at hk ⊢; exact ha.mono _ _ _ hz hk
    · rw [if_neg z] at hk ⊢; exact hb.mono _ _ _ hz hk) (fun _ z => z) q⟩
def zRet (n1 : Nat) (w : PW) (l : LamD) : SZ := fun ρ Z => (∃ d, ρ[n1]? = some (.sh d)) ∧ w ρ (fun d2 => Z ρ d2 l) (fun _ => False)
theorem pe_lam {cc P : Addr} {l : LamD} (B : TabB X.base X.mg cc P) (hcode : X.env.code = .ref cc) (hm : (P, X.env.qual ++ "<lambda>") ∈ T.tl) (hu : ∀ p ∈ T.tl, p.1 = P → p.2 = X.env.qual ++ "<lambda>") (hg : P ∉ T.tg ++ T.tn) (hk : LamOk X l) :
    PE X (.Lambda l.params l.body l.scope lpos) (fun σ H Q => TOk T H ∧ ∀ f c' H1, ExtB P H H1 → TOk T H1 → FnAt X H1 f c' l.params l.body l.scope → Q (.ref f) H1) :=
  ⟨fun pins s σ H Q I h => lam_keep I B hcode hm hu hg h.1 hk.2.1 (hk.1.has I.ok) fun f c' H1 s' I1 e t fa _ => ⟨.ref f, H1, I1, rfl, h.2 f c' H1 e t fa⟩⟩
theorem dz_ret {cc P : Addr} {l : LamD} {w : PW} {nm : Str} {kk : Nat} (B : TabB X.base X.mg cc P) (hcode : X.env.code = .ref cc) (hm : (P, X.env.qual ++ "<lambda>") ∈ T.tl) (hu : ∀ p ∈ T.tl, p.1 = P → p.2 = X.env.qual ++ "<lambda>") (hg : P ∉ T.tg ++ T.tn) (hk : LamOk X l) (hv : PE X (.Name nm p1) (tVar n1)) (h : DE T X W e w)
    (h1 : starEach [.Name nm p1, e, .Lambda l.params l.body l.scope lpos] X.env = (false, eval (.Name nm p1) X.env) :: starEach [e, .Lambda l.params l.body l.scope lpos] X.env := by rfl) (h2 : starEach [e, .Lambda l.params l.body l.scope lpos] X.env = (false, eval e X.env) :: starEach [.Lambda l.params l.body l.scope lpos] X.env := by rfl) :
    DZs T X n1 [.Return (some (.Tuple [.Name nm p1, e, .Lambda l.params l.body l.scope lpos] kk p2)) pos] (zRet n1 w l) :=
  ⟨pz_mono (pz_ret (pe_tup (pa_cons hv (pa_cons h.pe (pa_cons (pe_lam B hcode hm hu hg hk) pa_nil (by rfl)) h2) h1))) fun D σ H q => by
    obtain ⟨G, ρ, r, fa, ⟨d, hd⟩, q⟩ := q
    obtain ⟨v, g1, x, rfl, g2⟩ := r.slot n1 _ hd
    refine ⟨x, g1, G, ρ, r, h.mono _ _ _ _ _ (fun d2 hz v2 H1 r1 a1 => ⟨r1.tab, fun f c' H2 e2 t2 fa2 => ⟨by show 3 ≤ sizeLine; decide, fun p hp => ?_⟩⟩) (fun _ z => z.elim) q⟩
    have r2 := r1.extB (r1.tab.l _ hm) e2 t2
    have e12 : ExtN (hide G.O H1) (hide G.O H2) := (r1.rebase.extB (r1.tab.l _ hm) e2 t2).ext
    obtain ⟨r3, x3, np, h3⟩ := r2.new (o := .tup [x, v2, .ref f]) hp
    have fk : FnAt X (upd H2 p (.tup [x, v2, .ref f])) f c' l.params l.body l.scope := by
      obtain ⟨⟨pm, ctv, k1⟩, k2⟩ := fa2
      exact ⟨⟨pm, ctv, by rw [upd_ne (ne_of_none k1 hp)]; exact k1⟩, by rw [upd_ne (ne_of_none k2 hp)]; exact k2⟩
    exact hz x v2 f c' p σ _ G.O r3 g1 ((a1.ext e12).ext x3) fk hk upd_same,
   fun ρ Z Z' hz ⟨h1, q⟩ => ⟨h1, h.mono _ _ _ _ _ (fun d2 z => hz _ _ _ z) (fun _ z => z) q⟩⟩
end
end PL
set_option Elab.async false
set_option linter.all false
set_option maxRecDepth 100000
set_option maxHeartbeats 2000000
namespace PL
open PySem PySem.Spec PyProof.Rows L2 LamX
/-- what such a call leaves -/
structure ExitZ (T : Tb) (K : PySem.W.Frag) (Xd : Cx) (n1 : Nat) (O : List Addr) (H : Hp) (ρ' : En) (d2 : PyData) (l : LamD) (v : V) (H'' : Hp) (cs : Cells) (σL : L2.St) (f c' p : Addr) (v1 v2 : V) : Prop where
  val : v = .ref p
  tup : H'' p = some (.tup [v1, v2, .ref f])
  bk : Back T O H H''
  at1 : σL[n1]? = some (some v1)
  da2 : Da K (hide O H'') v2 d2
  fn : FnZ Xd H'' f c' l.params l.body l.scope
  ct : CellsT cs H''
  cl : ∀ c ob, cs.lookup c = some ob → H c = none ∧ ∃ u, ob.data = .cell u
  cz : CloZ Xd l.scope cs σL
  sl : ∀ (j : Nat) (d : PyData), ρ'[j]? = some (.sh d) → ∃ x, σL[j]? = some (some x) ∧ Da K (hide O H'') x d
abbrev CZ := En → ZK → Prop
def MonoCZ (c : CZ) : Prop := ∀ ρ Z Z', (∀ ρ' d l, Z ρ' d l → Z' ρ' d l) → c ρ Z → c ρ Z'
def cOfZ (N : List Str) (caps : List Nat) (ls : List LamD) (w : SZ) : CZ := fun ρ Z => w (ρ ++ List.replicate (N.length - ρ.length) .un) fun ρ' d2 l => (∀ i ∈ caps, ∃ d, ρ'[i]? = some (.sh d)) ∧ l ∈ ls ∧ Z ρ' d2 l
theorem mono_cOfZ {N : List Str} {caps : List Nat} {ls : List LamD} {w : SZ} (m : MonoZ w) : MonoCZ (cOfZ N caps ls w) := fun ρ Z Z' hz h => m _ _ _ (fun ρ' d l ⟨h1, h2, h3⟩ => ⟨h1, h2, hz _ _ _ h3⟩) h
def spZ (T : Tb) (K : PySem.W.Frag) (mkX : Around → List Env → Shared → Hp → XK → Cx) (n1 n : Nat) (c : CZ) : Sp := fun vs H Q E => ∃ (O : List Addr) (ρ : En), ρ.length = n ∧ Rep T K ⟨hide O H, O, flOf T.dc O H⟩ ρ (vs.map some) H ∧ (∀ s ∈ ρ, s.owned = false) ∧
  c ρ fun ρ' d2 l => ∀ v H'' Ad outd sd Hd Ed cs σL f c' p v1 v2, ExitZ T K (mkX Ad outd sd Hd Ed) n1 O H ρ' d2 l v H'' cs σL f c' p v1 v2 → Q v H''
/-- the cells of some names -/
def cellsOf (cells : List (Str × Addr)) (h : Heap) (names : List Str) : Cells := names.filterMap fun x => (cells.lookup x).bind fun c => (h.get? c).map fun ob => (c, ob)
theorem mem_cellsOf {cells : List (Str × Addr)} {h : Heap} {names : List Str} {c : Addr} {ob : Obj} : (c, ob) ∈ cellsOf cells h names ↔ ∃ x ∈ names, cells.lookup x = some c ∧ h.get? c = some ob := by
  unfold cellsOf
  rw [List.mem_filterMap]
  constructor
  · rintro ⟨x, hx, e⟩
    cases e1 : cells.lookup x with
    | none => rw [e1] at e; cases e
    | some c1 =>
      rw [e1] at e
      cases e2 : h.get? c1 with
      | none => rw [Option.bind_some, e2] at e; cases e
      | some o1 => rw [Option.bind_some, e2] at e; cases e; exact ⟨x, hx, e1, e2⟩
  · rintro ⟨x, hx, e1, e2⟩
    exact ⟨x, hx, by rw [e1, Option.bind_some, e2]; rfl⟩
theorem lookup_mem {cs : Cells} {c : Addr} {ob : Obj} : cs.lookup c = some ob → (c, ob) ∈ cs := by
  induction cs with
  | nil => intro h; cases h
  | cons q r ih =>
    obtain ⟨k, o⟩ := q
    intro h
    rw [List.lookup_cons] at h
    cases hb : c == k with
    | true =>
      rw [hb] at h
      cases h
      have : c = k := by simpa using hb
      rw [this]
      exact List.mem_cons_self
    | false =>
      rw [hb] at h
      exact List.mem_cons_of_mem _ (ih h)
theorem mem_lookupA {cs : Cells} {c : Addr} {ob : Obj} : (c, ob) ∈ cs → ∃ ob', cs.lookup c = some ob' := by
  induction cs with
  | nil => intro h; cases h
  | cons q r ih =>
    obtain ⟨k, o⟩ := q
    intro h
    rw [List.lookup_cons]
    cases hb : c == k with
    | true => exact ⟨_, rfl⟩
    | false =>
      rcases List.mem_cons.mp h with e | h
      · cases e
        simp at hb
      · exact ih h
section
variable {T : Tb} {K : PySem.W.Frag}
theorem fn_okZ {P : Program} {w : World} {mg : Str → Option Value} {base : Heap} {x : Str} {st : Stmt} {f c : Addr} {fd : FuncData} {N ps : List Str} {k n1 : Nat} {u : SZ} {caps : List Nat} {ls : List LamD} (F : FunC K x st f c fd) (S : FnScope N ps (defScope st))
    (hls : ∀ l ∈ ls, ∀ y, (y, NameKind.free) ∈ l.scope.names → ∃ i ∈ caps, N[i]? = some y ∧ (defScope st).names.lookup y = some .cell) (hN : N.Nodup)
    (hb : ∀ (A : Around) (outer : List Env) (s : Shared) (H : Hp) (E : XK), Room k (A.deeper (envOfC x (defScope st) s.heap.objs.size f (.ref c))) →
      DZs T (cxOf (L2.CX P w) P w K mg base N x (defScope st) f (.ref c) A outer s H E) n1 (defBody st) u) :
    FnOk P w K mg base (L2.CX P w) (k + 1) f fd ps (spZ T K (fun A outer s H E => cxOf (L2.CX P w) P w K mg base N x (defScope st) f (.ref c) A outer s H E) n1 ps.length (cOfZ N caps ls u)) := by
  obtain ⟨oc, od, kV, doc, pm, an, ct, osl, rfl, lk, hcd⟩ := F.ex
  have len : ∀ vs H Q E, spZ T K (fun A outer s H E => cxOf (L2.CX P w) P w K mg base N x (defScope st) f (.ref c) A outer s H E) n1 ps.length (cOfZ N caps ls u) vs H Q E → vs.length = ps.length := fun vs H Q E h => by
    obtain ⟨O, ρ, h1, h2, _⟩ := h
    have := h2.len
    rw [List.length_map] at this
    omega
  refine ⟨len, fun A outer s H args us vs Q E hr e0 hbi rv0 hsp => ?_⟩
  have hl := len _ _ _ _ hsp
  have KX : K.In s.heap := e0.mod.kin.keeps fun b o e => (e0.bs b o e).1
  have lim : s.heap.NoLimit := e0.mod.nolimit.keeps fun b o e => (e0.bs b o e).1
  have hkind : ∀ y ∈ ps.zip us, (defScope st).names.lookup y.1 = some .local ∨ ((defScope st).names.lookup y.1 = some .cell ∧ ((cellsFrom (s.heap.objs.size + 1) (defScope st).names []).lookup y.1).isSome = true) := fun ⟨n, v⟩ hy => by
    rcases S.par n (List.of_mem_zip hy).1 with q | q
    · exact .inl q
    · exact .inr ⟨q, PySem.W.cellsFrom_some _ _ _ (.inl q)⟩
  refine codeAny_call_function hr.depth (KX _ _ lk) rfl S.co S.gen rfl (PySem.W.codeRec_of KX hcd) (hbi _ _ _ _ ?_)
  refine wpAny_newFunctionEnv_cells S.kind hkind fun env he s1 x1 => ?_
  subst he
  refine ⟨lim.keeps x1.toInCall.keep, codeAny_func ?_⟩
  obtain ⟨O, ρ, h1, r, no, q⟩ := hsp
  have I : Inv (cxOf (L2.CX P w) P w K mg base N x (defScope st) f (.ref c) A outer s H E) [] (start N vs) H s1 := inv_start S hr.hd e0 hl rv0 x1
  have hlr : ρ.length = vs.length := by have := r.len; rw [List.length_map] at this; exact this
  let D : V → L2.St → Hp → Prop := fun v σ' H' => ∃ ρ' d2 l v1 v2 f' c' p O', v = .ref p ∧ Rep T K ⟨hide O H, O', flOf T.dc O H⟩ ρ' σ' H' ∧ σ'[n1]? = some (some v1) ∧ Da K (hide O' H') v2 d2 ∧ FnAt (cxOf (L2.CX P w) P w K mg base N x (defScope st) f (.ref c) A outer s H E) H' f' c' l.params l.body l.scope ∧ H' p = some (.tup [v1, v2, .ref f']) ∧
    (∀ i ∈ caps, ∃ d, ρ'[i]? = some (.sh d)) ∧ l ∈ ls ∧ ∀ v H'' Ad outd sd Hd Ed cs σL f2 c2 p v1 v2, ExitZ T K (cxOf (L2.CX P w) P w K mg base N x (defScope st) f (.ref c) Ad outd sd Hd Ed) n1 O H ρ' d2 l v H'' cs σL f2 c2 p v1 v2 → Q v H''
  refine wpAny_mono ((hb A outer s H E (hr.deeper _)).pz.run [] s1 (start N vs) H D I ⟨⟨hide O H, O, flOf T.dc O H⟩, ρ ++ List.replicate (N.length - ρ.length) .un, ?_, fun q hq j t hj ht => ?_, ?_⟩) (fun fl s' hs => ?_) fun e s' hs => hs
  · rw [start_eq hlr]
    exact r.more _
  · exfalso
    by_cases z : j < ρ.length
    · rw [List.getElem?_append_left z] at hj
      rw [no t (List.mem_of_getElem? hj)] at ht
      cases ht
    · rw [List.getElem?_append_right (by omega), List.getElem?_replicate] at hj
      split at hj
      · cases hj; cases ht
      · cases hj
  · exact (hb A outer s H E (hr.deeper _)).mono _ _ _ (fun ρ' d2 l ⟨k1, k2, k3⟩ v1 v2 f' c' p σ' H' O' r' g1 g2 g3 _ g4 => ⟨ρ', d2, l, v1, v2, f', c', p, O', rfl, r', g1, g2, g3, g4, k1, k2, k3⟩) q
  · cases fl with
    | ret u =>
      obtain ⟨v, σ', H', J, rv, ρ', d2, l, v1, v2, f', c', p, O', rfl, r', g1, g2, g3, g4, k1, k2, k3⟩ := hs
      obtain ⟨bk, e2⟩ := r'.back r.dom
      obtain ⟨cs, hcs⟩ : ∃ cs, cs = cellsOf (cxOf (L2.CX P w) P w K mg base N x (defScope st) f (.ref c) A outer s H E).env.cells s'.heap ((l.scope.names.filter fun y => decide (y.2 = .free)).map (·.1)) := ⟨_, rfl⟩
      have cellOf : ∀ c1 ob, cs.lookup c1 = some ob → ∃ y, (cxOf (L2.CX P w) P w K mg base N x (defScope st) f (.ref c) A outer s H E).env.cells.lookup y = some c1 ∧ s'.heap.get? c1 = some ob := fun c1 ob z => by
        have := lookup_mem z
        rw [hcs] at this
        obtain ⟨y, _, e1, e2⟩ := mem_cellsOf.mp this
        exact ⟨y, e1, e2⟩
      have new : ∀ c1 ob, cs.lookup c1 = some ob → s.heap.objs.size ≤ c1 := fun c1 ob z => by
        obtain ⟨y, e1, _⟩ := cellOf c1 ob z
        exact J.ok.cab y c1 rfl e1
      have hn : ∀ c1 ob, cs.lookup c1 = some ob → H' c1 = none ∧ s'.heap.get? c1 = some ob := fun c1 ob z => by
        obtain ⟨y, e1, e2⟩ := cellOf c1 ob z
        exact ⟨J.freeC y c1 e1, e2⟩
      have kp : ∀ {b v}, H' b = some v → retC cs H' b = some v := fun {b v} q => by
        cases z : cs.lookup b with
        | none => rw [retC_out z]; exact q
        | some ob => rw [(hn _ _ z).1] at q; cases q
      have un : Un (frs outer) [] H H' s.heap s'.heap := J.base
      have un2 : Un (frs outer) [] H (retC cs H') s.heap s'.heap := ⟨un.keep, un.slot, fun b o e n hx => by
        cases z : cs.lookup b with
        | none => rw [retC_out z]; exact un.free b o e n hx
        | some ob => exact absurd (Heap.lt_size e) (Nat.not_lt.mpr (new b ob z)), un.there, fun b xs e => kp (un.tups b xs e), fun b o v e => kp (un.frzs b o v e), fun b ps e => by
        obtain ⟨more, e2⟩ := un.tbls b ps e
        exact ⟨more, kp e2⟩⟩
      have eh : ExtN (hide O H') (hide O (retC cs H')) := ext_hide fun b o _ e _ => kp e
      refine ⟨.ref p, retC cs H', J.os, J.bare, un2, retC_hok J.hok hn, rv, k3 (.ref p) _ A outer s H E cs σ' f' c' p v1 v2 ⟨rfl, kp g4, ⟨bk.ext.trans eh, fun a ha nd => ?_, fun a ha => ?_, bk.tab.keep fun b o e => kp e⟩, g1, (g2.ext e2).ext eh, ?_, fun c1 ob z => retC_in z, fun c1 ob z => ?_, ⟨J.ok.inj, fun y hy => ?_, J.len⟩, fun j d hj => ?_⟩⟩
      · obtain ⟨o, ho, _⟩ := r.dom a ha
        rw [ho]
        exact kp ((bk.keep a ha nd).trans ho)
      · obtain ⟨x1, y1, z1, e⟩ := bk.dc a ha
        exact ⟨x1, y1, z1, kp e⟩
      · obtain ⟨⟨pm', ctv, q1⟩, q2⟩ := g3
        exact ⟨⟨pm', ctv, kp q1⟩, kp q2⟩
      · obtain ⟨y, q1, q2⟩ := cellOf c1 ob z
        obtain ⟨v0, o0, q3, q4⟩ := J.cell y c1 q1
        rw [q2] at q3
        cases q3
        exact ⟨e0.hok.fresh (new c1 ob z), v0, q4⟩
      · obtain ⟨i, hi, hNi, hcell⟩ := hls l k2 y hy
        obtain ⟨d, hd⟩ := k1 i hi
        obtain ⟨vx, q1, x0, rfl, _⟩ := r'.slot i _ hd
        obtain ⟨m, _, loc⟩ := J.loc
        obtain ⟨u0, q2, q3⟩ := loc i y x0 hNi q1 (.inr (.inl hcell))
        rcases q3 with ⟨q4, _⟩ | ⟨_, c1, q4, o1, q5, q6⟩
        · have q4 : (defScope st).names.lookup y = some .local := q4
          rw [hcell] at q4
          cases q4
        · have mem : (c1, o1) ∈ cs := by
            rw [hcs]
            exact mem_cellsOf.mpr ⟨y, List.mem_map.mpr ⟨(y, .free), List.mem_filter.mpr ⟨hy, by simp⟩, rfl⟩, q4, q5⟩
          obtain ⟨ob', q7⟩ := mem_lookupA mem
          have q8 := (hn _ _ q7).2
          rw [q5] at q8
          cases q8
          refine ⟨c1, o1, u0, q4, q7, q6, fun i' v hi' hv => ?_⟩
          have : i' = i := nodup_ix hN hi' hNi
          subst this
          rw [q1] at hv
          cases hv
          exact q2
      · obtain ⟨vx, q1, x0, rfl, q2⟩ := r'.slot j _ hj
        exact ⟨x0, q1, (q2.ext e2).ext eh⟩
    | next => exact hs.elim
    | brk => exact hs.elim
    | cont => exact hs.elim
end
end PL
set_option Elab.async false
set_option linter.all false
set_option maxRecDepth 100000
set_option maxHeartbeats 2000000
namespace PL
open PySem PySem.Spec PyProof.Rows L2 LamX
def DaO : HO → Prop
  | .lst _ => True
  | .tup _ => True
  | .dK _ => True
  | .dT _ => True
  | .ins _ _ _ => True
  | .frz _ (.tup _) => True
  | _ => False
section
variable {K : PySem.W.Frag} {H H' : Hp}
mutual
theorem Da.sub2 (e : ∀ b o, H b = some o → DaO o → H' b = some o) : ∀ {v : V} {d : PyData}, Da K H v d → Da K H' v d
  | _, _, .non => .non
  | _, _, .bl b => .bl b
  | _, _, .int i => .int i
  | _, _, .str x => .str x
  | _, _, .lst h r => .lst (e _ _ h trivial) (DaAll.sub2 e r)
  | _, _, .tup h r => .tup (e _ _ h trivial) (DaAll.sub2 e r)
  | _, _, .ftup h q n r => .ftup (e _ _ h trivial) q n (DaAll.sub2 e r)
  | _, _, .dk h r => .dk (e _ _ h trivial) (DaAll.sub2 e r)
  | _, _, .dt h n r => .dt (e _ _ h trivial) n (DaAll.sub2 e r)
  | _, _, .dte h => .dte (e _ _ h trivial)
  | _, _, .ob h => .ob (h.imp fun b o hb z => e b o hb (by rcases z with ⟨_, _, _, z⟩ | z <;> rw [z] <;> trivial))
  | _, _, .pt h q n r => .pt (e _ _ h trivial) q n (DaAll.sub2 e r)
theorem DaAll.sub2 (e : ∀ b o, H b = some o → DaO o → H' b = some o) : ∀ {vs : List V} {ds : List PyData}, DaAll K H vs ds → DaAll K H' vs ds
  | _, _, .nil => .nil
  | _, _, .cons h r => .cons (Da.sub2 e h) (DaAll.sub2 e r)
end
end
section
variable {T : Tb} {K : PySem.W.Frag} {H H' : Hp} {cs : Cells} {O : List Addr} {A A' : RA} {R R' : Reg}
theorem hide_cell (ct : CellsT cs H) {b : Addr} {o : HO} (h : hide O H b = some o) (n : ∀ ob, o ≠ .frz ob (.own b)) : hide O (hidC cs H) b = some o := by
  obtain ⟨h1, h2⟩ := hide_some h
  rw [hide_out h1, hidC_out (ct.out h2 n)]
  exact h2
theorem Da.cell (ct : CellsT cs H) {v : V} {d : PyData} (h : Da K (hide O H) v d) : Da K (hide O (hidC cs H)) v d := h.sub2 fun b o hb z => hide_cell ct hb fun ob e => by rw [e] at z; exact z
theorem DaAll.cell (ct : CellsT cs H) {vs : List V} {ds : List PyData} (h : DaAll K (hide O H) vs ds) : DaAll K (hide O (hidC cs H)) vs ds := h.sub2 fun b o hb z => hide_cell ct hb fun ob e => by rw [e] at z; exact z
theorem RgAt.cell (ct : CellsT cs H) (h : RgAt K (hide O H) H A R) : RgAt K (hide O (hidC cs H)) (hidC cs H) A R := by
  have kp : ∀ {b o}, H b = some o → (∀ ob, o ≠ .frz ob (.own b)) → hidC cs H b = some o := fun {b o} hb n => by rw [hidC_out (ct.out hb n)]; exact hb
  obtain ⟨⟨C, dx, r, h1, h2, h3⟩, ⟨ts, h4, h5, h6, h7⟩, ⟨vs, h8, h9⟩, ⟨us, h10, h11⟩⟩ := h
  exact ⟨⟨C, dx, r, h1, kp h2 (fun ob z => by cases z), hide_cell ct h3 (fun ob z => by cases z)⟩, ⟨ts, kp h4 (fun ob z => by cases z), h5, fun p hp => hide_cell ct (h6 p hp) (fun ob z => by cases z), h7.cell ct⟩, ⟨vs, kp h8 (fun ob z => by cases z), h9.cell ct⟩, ⟨us, kp h10 (fun ob z => by cases z), h11.cell ct⟩⟩
theorem RrOk.cell (ct : CellsT cs H) {x : V} (h : RrOk K (hide O H) R x) : RrOk K (hide O (hidC cs H)) R x := by
  obtain ⟨A, h1, ⟨C, dx, r, g1, h2, h3⟩, ⟨ts, h4, h5, h6, h7⟩, ⟨vs, h8, h9⟩, ⟨us, h10, h11⟩⟩ := h
  exact ⟨A, h1, ⟨C, dx, r, g1, hide_cell ct h2 (fun ob z => by cases z), hide_cell ct h3 (fun ob z => by cases z)⟩, ⟨ts, hide_cell ct h4 (fun ob z => by cases z), h5, fun p hp => hide_cell ct (h6 p hp) (fun ob z => by cases z), h7.cell ct⟩, ⟨vs, hide_cell ct h8 (fun ob z => by cases z), h9.cell ct⟩, ⟨us, hide_cell ct h10 (fun ob z => by cases z), h11.cell ct⟩⟩
theorem TOk.cell (t : TOk T H) (ct : CellsT cs H) (hc : ∀ c ob, cs.lookup c = some ob → ∃ u, ob.data = .cell u) (kn : T.kn = []) : TOk T (hidC cs H) := by
  have kp : ∀ {b o}, H b = some o → (∀ ob, o ≠ .frz ob (.own b)) → hidC cs H b = some o := fun {b o} hb n => by rw [hidC_out (ct.out hb n)]; exact hb
  have eg : ∀ {P}, GxR.TabG H P → GxR.TabG (hidC cs H) P := fun {P} ⟨ps, h1, h2⟩ => ⟨ps, kp h1 (fun ob z => by cases z), h2⟩
  have ec : ∀ {c P}, CdAt H c P → CdAt (hidC cs H) c P := fun {c P} ⟨oc, h1, h2⟩ => by
    refine ⟨oc, ?_, h2⟩
    cases z : cs.lookup c with
    | none => rw [hidC_out z]; exact h1
    | some ob =>
      exfalso
      have := ct _ _ z
      rw [h1] at this
      cases this
      obtain ⟨u, e⟩ := hc _ _ z
      obtain ⟨vs, _, _, _, _, _, _, _, _, e2, _⟩ := h2
      rw [e] at e2
      cases e2
  refine ⟨fun P hP => eg (t.g P hP), fun p hp => ?_, fun P hP => ?_, fun q hq => ec (t.c q hq), fun q hq => by rw [kn] at hq; cases hq⟩
  · obtain ⟨ps, h1, h2, h3⟩ := t.l p hp
    exact ⟨ps, kp h1 (fun ob z => by cases z), h2, fun pos cv hcv => by obtain ⟨c', e1, h4⟩ := h3 pos cv hcv; exact ⟨c', e1, kp h4 fun ob z => by unfold CodeO at z; cases z⟩⟩
  · obtain ⟨ps, h1, h2, h3⟩ := t.n P hP
    exact ⟨ps, kp h1 (fun ob z => by cases z), h2, fun pos cv hcv => by obtain ⟨c', P', e1, h4, h5, h6⟩ := h3 pos cv hcv; exact ⟨c', P', e1, ec h4, eg h5, h6⟩⟩
theorem retC_kp (hn : CellsN cs H') {b : Addr} {o : HO} (q : H' b = some o) : retC cs H' b = some o := by
  cases z : cs.lookup b with
  | none => rw [retC_out z]; exact q
  | some ob => rw [hn _ _ z] at q; cases q
theorem BackG.ret (ct : CellsT cs H) (hn : CellsN cs H') (b : BackG T K A O A' R' (hidC cs H) H') : BackG T K A O A' R' H (retC cs H') := by
  have kinds := b.rg.kind
  refine ⟨fun a o ha na nd nt => ?_, fun a ha => ?_, b.tab.keep fun _ _ e => retC_kp hn e, b.ap, fun a ha => ⟨(b.own a ha).1, ?_⟩, b.rg.ext (fun c o hc _ => ?_) fun c hc => ?_⟩
  · cases z : cs.lookup a with
    | none => exact retC_kp hn (b.e a o (by rw [hidC_out z]; exact ha) na nd nt)
    | some ob => rw [retC_in z, ← ct _ _ z]; exact ha
  · obtain ⟨x, y, z, e⟩ := b.dc a ha
    exact ⟨x, y, z, retC_kp hn e⟩
  · rcases (b.own a ha).2 with z | ⟨z1, z2⟩
    · exact .inl z
    · refine .inr ⟨z1, fun o ho => ?_⟩
      cases z : cs.lookup a with
      | none => exact z2 o (by rw [hidC_out z]; exact ho)
      | some ob =>
        obtain ⟨o1, h1, _⟩ := kinds a ha
        rw [hn _ _ z] at h1
        cases h1
  · obtain ⟨h1, h2⟩ := hide_some hc
    rw [hide_out h1]
    exact retC_kp hn h2
  · obtain ⟨o1, h1, _⟩ := kinds c hc
    rw [h1]
    exact retC_kp hn h1
end
section
variable {T : Tb} {X : Cx} {W : WX} {pos p : Pos} {e : Expr}
def tActZ (X : Cx) (k : Nat) (qd : Str) (TT : (XK → Hp → VK → Prop) → Hp → VK → Prop) (Q : VK) (v : V) (H1 : Hp) : Prop := ∃ (Xd : Cx) (cs : Cells) (σL : L2.St) (f c' : Addr) (l : LamD) (t : XK → TE), v = .ref f ∧ Xd.env.qual ++ "<lambda>" = qd ∧ LamZ l.scope ∧ CloZ Xd l.scope cs σL ∧ Xd.prog = X.prog ∧ Xd.w = X.w ∧ Xd.K = X.K ∧ Xd.mg = X.mg ∧ Xd.base = X.base ∧
  (∀ (q : Str) (cl : List (Str × Addr)) (pm cv ctv : Value), bindArgs (PySem.W.kla_fn "<lambda>" q l.params l.body l.scope cl pm cv ctv) ⟨[], []⟩ = pure []) ∧
  (∀ (A : Around) (outer : List Env) (s : Shared) (H : Hp) (E : XK), Room k (A.deeper (lamEnv Xd l.scope s.heap.objs.size f c')) → PE (lamCx Xd A outer s H E l.scope f c') l.body (t E)) ∧ FnZ Xd H1 f c' l.params l.body l.scope ∧ TT (tlZ Xd cs σL f c' l.params l.body l.scope t) H1 Q
theorem pe_toldZ {TT : (XK → Hp → VK → Prop) → Hp → VK → Prop} {x a qd : Str} {g cg : Addr} {k : Nat} {stg : Stmt} {fdg : FuncData} {Ng : List Str} {te : TE} (hgl : Gl X x) (hmg : X.mg x = some (.ref g)) (F : FunC X.K x stg g cg fdg) (hb : L2.Binds X.K fdg [a] []) (Sg : FnScope Ng [a] (defScope stg)) (hNg : Ng[0]? = some a)
    (hva : Vis (defScope stg) a) (hG : GivesTo X Ng x (defScope stg) g (.ref cg) (defBody stg) a qd TT) (hr : Room (k + 2) X.A) (he : PE X e te) (hdb : (x == ("__debug__" : Str)) = false := by decide) (hd : (a == ("__debug__" : Str)) = false := by decide) (hcd : (a == ("__classdict__" : Str)) = false := by decide)
    (hs : starEach [e] X.env = (false, eval e X.env) :: starEach [] X.env := by rfl) : PE X (.Call (.Name x p) [e] [] pos) (fun σ H Q => te σ H (tActZ X k qd TT Q)) := by
  obtain ⟨oc, od, kV, doc, pm, an, ct, osl, rfl, lk, hcg⟩ := F.ex
  refine ⟨fun pins s σ H Q I h => wpAny_Call_Name_kw (ld_glob I hgl hmg ?_ hdb)⟩
  refine PySem.W.callWith_K (h₀ := X.base) I.ok.mod.kin F.kp (thn ((pa_cons he pa_nil hs).run pos pins s σ H (fun vs H1 => match vs with
    | [v] => tActZ X k qd TT Q v H1
    | _ => False) I h) fun us s1 ⟨vs, H1, I1, r, q⟩ => ⟨I1.kIn, ?_⟩) hs (by rfl)
  match vs, r, q with
  | [v], r, q =>
  obtain ⟨Xd, cs, σL, f, c', l, t, rfl, hq, L, cz, e1, e2, e3, e4, e5, hbind, hbd, fz, hTT⟩ := q
  cases r with
  | cons r1 r2 =>
    cases r2
    obtain rfl : _ = Value.ref f := r1
    subst hq
    have run : codeAny (model X.prog X.w) X.A (.call (.ref g) ⟨[.ref f], []⟩) (CR C8.CX0 X.stack X.prog X.w H1 s1 Q C8.E0) s1 := run_ofS (N := Ng) (ps := [a]) (us := [.ref f]) (vs := [.ref f]) lk hcg Sg hr I1.env0 (hb s1 [.ref f] I1.kIn rfl) (.cons rfl .nil) rfl fun hr' => by
      obtain ⟨t', ht', hq'⟩ := hG f c' s1 H1 Q (tlZ Xd cs σL f c' l.params l.body l.scope t) (fun W pn xe E p1 p2 tk hW => act_clo (i := 0) I1 L cz e1 e2 e3 e4 e5 hbind tk hW hr' (fun A outer s H E hr2 => hbd A outer s H E hr2) hNg hva hd hcd) fz.2 hTT
      exact ⟨t', ht'.nox, hq'⟩
    refine wpAny_call (codeAny_mono run fun r s2 hq => ?_)
    match r, hq with
    | .error e, hq => exact False.elim hq
    | .ok (.ret u), hq => exact I1.after hq
    | .ok .next, hq => exact False.elim hq
    | .ok .brk, hq => exact False.elim hq
    | .ok .cont, hq => exact False.elim hq
end
end PL
set_option Elab.async false
set_option linter.all false
set_option maxRecDepth 100000
set_option maxHeartbeats 2000000
namespace PL
open PySem PySem.Spec PyProof.Rows L2 LamX
/-- slots read one after the other -/
def tVs : List Nat → TA
  | [] => tNil
  | j :: js => tCons (tVar j) (tVs js)
/-- one kind of lambda: book.m(..), the slots of the arguments, what the method promises: with changes, with an error -/
structure Ent where
  l : LamD
  m : Str
  js : List Nat
  cG : CG
  cD : PW
def tEnt (T : Tb) (K : PySem.W.Frag) (C : Addr) (ib : Nat) (t : Ent) : XK → TE := fun E σ H Q => tVar ib σ H fun x H1 => ∃ a dx fs, x = .ref a ∧ H1 a = some (.ins C dx fs) ∧ fs.lookup t.m = none ∧ tVs t.js σ H1 fun vs H2 => spG T K (t.js.length + 1) t.cG (x :: vs) H2 Q E ∨ spD T K (t.js.length + 1) t.cD (x :: vs) H2 Q E
structure EntOk (T : Tb) (X : Cx) (C : Addr) (ib k : Nat) (mkX : Around → List Env → Shared → Hp → XK → Cx) (t : Ent) : Prop where
  lz : LamZ t.l.scope
  bind : ∀ (q : Str) (cl : List (Str × Addr)) (pm cv ctv : Value), bindArgs (PySem.W.kla_fn "<lambda>" q t.l.params t.l.body t.l.scope cl pm cv ctv) ⟨[], []⟩ = pure []
  body : ∀ Ad outd sd Hd Ed (A : Around) (outer : List Env) (s : Shared) (H : Hp) (E : XK) (f c' : Addr), Room k (A.deeper (lamEnv (mkX Ad outd sd Hd Ed) t.l.scope s.heap.objs.size f c')) → PE (lamCx (mkX Ad outd sd Hd Ed) A outer s H E t.l.scope f c') t.l.body (tEnt T X.K C ib t E)
  mg : MonoG t.cG
  md : Mono t.cD
  no : ∀ r t' d u, (rgF r t' d u).lookup t.m = none
section
variable {T : Tb} {X : Cx} {W : WX} {K : PySem.W.Frag} {G : Gh} {ρ ρL : En} {σ σL : L2.St} {H H' : Hp} {C : Addr} {A A' : RA} {R R' : Reg} {i : Nat} {cs : Cells}
theorem tVs_run : ∀ {js : List Nat} {ds : List PyData} {B : Hp} {Q : List V → Hp → Prop}, (∀ (j : Nat) (d : PyData), ρL[j]? = some (.sh d) → ∃ x, σL[j]? = some (some x) ∧ Da K B x d) → (js.map fun j => ρL[j]?) = ds.map (fun d => some (Sl.sh d)) →
    (∀ vs, DaAll K B vs ds → Q vs H) → tVs js σL H Q
  | [], [], B, Q, _, _, q => q [] .nil
  | j :: js, d :: ds, B, Q, h, e, q => by
    injection e with e1 e2
    obtain ⟨x, g1, g2⟩ := h j d e1
    exact ⟨x, g1, tVs_run h e2 fun vs hv => q (x :: vs) (.cons g2 hv)⟩
theorem args_sh : ∀ {vs : List V} {ds : List PyData} {B : Hp}, DaAll K B vs ds → ArgsOk T K B vs (ds.map .sh)
  | [], [], _, .nil => .nil
  | _ :: _, _ :: _, _, .cons h r => .cons h (args_sh r)
/-- into the call, the cells put aside: with changes -/
theorem args_cellG {vs : List V} {ds : List PyData} (r : Rep T K G ρ σ H) (hi : ρ[i]? = some (.rg A R)) (ct : CellsT cs H) (hc : ∀ c ob, cs.lookup c = some ob → c ∉ G.O ∧ ∃ u, ob.data = .cell u) (kn : T.kn = []) (h : DaAll K (hide G.O H) vs ds) :
    Rep T K ⟨hide G.O (hidC cs H), G.O, flG T.dc A G.O (hidC cs H)⟩ (.rg A R :: ds.map .sh) ((V.ref A.b :: vs).map some) (hidC cs H) := by
  obtain ⟨r0, no⟩ := args_repG r hi (args_sh h)
  have out : ∀ a ∈ G.O, hidC cs H a = H a := fun a ha => by
    cases z : cs.lookup a with
    | none => exact hidC_out z
    | some ob => exact absurd ha (hc _ _ z).1
  have ob : ∀ s ∈ ds.map Sl.sh, ∃ d, s = .sh d := fun s hs => by obtain ⟨d, _, rfl⟩ := List.mem_map.mp hs; exact ⟨d, rfl⟩
  refine ⟨r0.len, fun j s hj => ?_, r0.sep, r0.tab.cell ct (fun c ob z => (hc c ob z).2) kn, ExtN.refl _, fun a ha => by show ∃ o, hidC cs H a = some o ∧ NT o; rw [out a ha]; exact r.dom a ha, fun q hq => ?_, fun a ha => ⟨(r.dcs a ha).1, by rw [out a (r.dcs a ha).1]; exact (r.dcs a ha).2.1, fun q hq z => ?_⟩⟩
  · obtain ⟨v, g1, g2⟩ := r0.slot j s hj
    refine ⟨v, g1, ?_⟩
    cases j with
    | zero =>
      simp at hj
      subst hj
      obtain ⟨k1, k2, k3, k4⟩ := g2
      exact ⟨k1, k2, k3, k4.cell ct⟩
    | succ j =>
      rw [List.getElem?_cons_succ] at hj
      obtain ⟨d, rfl⟩ := ob s (List.mem_of_getElem? hj)
      obtain ⟨x, k1, k2⟩ := g2
      exact ⟨x, k1, k2.cell ct⟩
  · obtain ⟨b, o⟩ := q
    obtain ⟨k1, k2, k3, k4⟩ := mem_flG.mp hq
    exact ⟨k1, k4⟩
  · obtain ⟨b, o⟩ := q
    obtain ⟨k1, k2, k3, k4⟩ := mem_flG.mp hq
    exact k2 (by rw [show b = a from z]; exact ha)
/-- .. with an error -/
theorem args_cellD {vs : List V} {ds : List PyData} (r : Rep T K G ρ σ H) (hi : ρ[i]? = some (.rg A R)) (by_ : ByE i ρ) (ct : CellsT cs H) (hc : ∀ c ob, cs.lookup c = some ob → c ∉ G.O ∧ ∃ u, ob.data = .cell u) (kn : T.kn = []) (h : DaAll K (hide G.O H) vs ds) :
    Rep T K ⟨hide (outO A G.O) (hidC cs H), outO A G.O, flOf T.dc (outO A G.O) (hidC cs H)⟩ (.rr R :: ds.map .sh) ((V.ref A.b :: vs).map some) (hidC cs H) ∧ ∀ s ∈ (Sl.rr R :: ds.map .sh), s.owned = false := by
  have rl := r.lend hi by_
  obtain ⟨x, g1, A2, e2, g2⟩ : ∃ x, (some (V.ref A.b) : Option V) = some x ∧ RrOk K (hide (outO A G.O) H) R x := by
    obtain ⟨v, k1, x, k2, k3⟩ := rl.slot i (.rr R) (List.getElem?_set_self (List.getElem?_eq_some_iff.mp hi).1)
    rw [(r.rgAt hi).1] at k1
    cases k1
    exact ⟨x, k2, k3⟩
  cases g1
  have h2 : DaAll K (hide (outO A G.O) H) vs ds := h.ext (ext_sub fun b hb => (mem_outO.mp hb).1)
  obtain ⟨r0, no⟩ := args_rep rl (.cons (s := .rr R) (show ArgOk T K (hide (outO A G.O) H) (.ref A.b) (.rr R) from ⟨A2, e2, g2⟩) (args_sh h2))
  have out : ∀ a ∈ outO A G.O, hidC cs H a = H a := fun a ha => by
    cases z : cs.lookup a with
    | none => exact hidC_out z
    | some ob => exact absurd (mem_outO.mp ha).1 (hc _ _ z).1
  have ob : ∀ s ∈ ds.map Sl.sh, ∃ d, s = .sh d := fun s hs => by obtain ⟨d, _, rfl⟩ := List.mem_map.mp hs; exact ⟨d, rfl⟩
  refine ⟨⟨r0.len, fun j s hj => ?_, r0.sep, r0.tab.cell ct (fun c ob z => (hc c ob z).2) kn, ExtN.refl _, fun a ha => by show ∃ o, hidC cs H a = some o ∧ NT o; rw [out a ha]; exact rl.dom a ha, fun q hq => ?_, fun a ha => ⟨(rl.dcs a ha).1, by rw [out a (rl.dcs a ha).1]; exact (rl.dcs a ha).2.1, fun q hq z => ?_⟩⟩, no⟩
  · obtain ⟨v, g1, g2⟩ := r0.slot j s hj
    refine ⟨v, g1, ?_⟩
    cases j with
    | zero =>
      simp at hj
      subst hj
      obtain ⟨x, k1, k2⟩ := g2
      exact ⟨x, k1, RrOk.cell (O := outO A G.O) ct k2⟩
    | succ j =>
      rw [List.getElem?_cons_succ] at hj
      obtain ⟨d, rfl⟩ := ob s (List.mem_of_getElem? hj)
      obtain ⟨x, k1, k2⟩ := g2
      exact ⟨x, k1, Da.cell (O := outO A G.O) ct k2⟩
  · obtain ⟨b, o⟩ := q
    obtain ⟨k1, k2, k3⟩ := mem_flOf.mp hq
    exact ⟨k1, k3⟩
  · obtain ⟨b, o⟩ := q
    obtain ⟨k1, k2, k3⟩ := mem_flOf.mp hq
    exact k2 (by rw [show b = a from z]; exact ha)
/-- behind an error nothing has changed -/
theorem Rep.fromD (r : Rep T K G ρ σ H) (hi : ρ[i]? = some (.rg A R)) (ct : CellsT cs H) (hn : CellsN cs H') (hc : ∀ c ob, cs.lookup c = some ob → c ∉ G.O) (b : Back T (outO A G.O) (hidC cs H) H') : Rep T K G ρ σ (retC cs H') := by
  obtain ⟨h1, own, ap, hR⟩ := r.rgAt hi
  have at_ : ∀ a o, H a = some o → a ∉ outO A G.O → (∀ ps, o ≠ .tbl ps) → retC cs H' a = some o := fun a o ha no nt => by
    cases z : cs.lookup a with
    | some ob => rw [retC_in z, ← ct _ _ z]; exact ha
    | none =>
      have := b.ext a o (by rw [hide_out no, hidC_out z]; exact ha) nt
      exact retC_kp hn (hide_some this).2
  refine r.stepD (ext_hide fun a o ha e nt => at_ a o e (fun z => ha (mem_outO.mp z).1) nt) (fun a ha nd => ?_) (fun a ha => ?_) (b.tab.keep fun _ _ e => retC_kp hn e)
  · obtain ⟨o, ho, n⟩ := r.dom a ha
    rw [ho]
    by_cases y : A.has a
    · exact at_ a o ho (fun z => (mem_outO.mp z).2 y) n
    · have := b.keep a (mem_outO.mpr ⟨ha, y⟩) nd
      have nz : cs.lookup a = none := by
        cases z : cs.lookup a with
        | none => rfl
        | some ob => exact absurd ha (hc _ _ z)
      rw [hidC_out nz, ho] at this
      exact retC_kp hn this
  · obtain ⟨x, y, z, e⟩ := b.dc a ha
    exact ⟨x, y, z, retC_kp hn e⟩
end
end PL
set_option Elab.async false
set_option linter.all false
set_option maxRecDepth 100000
set_option maxHeartbeats 2000000
namespace PL
open PySem PySem.Spec PyProof.Rows L2 LamX
section
variable {T : Tb} {X : Cx} {W : WX} {K : PySem.W.Frag} {G : Gh} {ρ ρL : En} {σ σL : L2.St} {H H' : Hp} {C : Addr} {A A' : RA} {R R' : Reg} {i : Nat} {cs : Cells} {e : Expr} {es : List Expr}
def wpMk (i : Nat) (ws : PWp) : PWp := fun ρ Q E => ∃ A R, ρ[i]? = some (.rg A R) ∧ ws ρ (fun ss => Q (.sh (mk A.b) :: ss)) E
theorem dp_mk {i : Nat} {ws : PWp} (h : PE X e (tVar i)) (hr : DP T X W es ws) (hs : starEach (e :: es) X.env = (false, eval e X.env) :: starEach es X.env := by rfl) : DP T X W (e :: es) (wpMk i ws) :=
  ⟨pa_mono (pa_cons h hr.pa hs) fun σ H Q q => by
    obtain ⟨G, ρ, r, A, R, hd, q⟩ := q
    exact ⟨_, (r.rgAt hd).1, G, ρ, r, hr.mono _ _ _ _ _ (fun ss hss vs H2 r2 a2 => hss _ _ r2 (.cons (show ArgOk T X.K (hide G.O H2) (.ref A.b) (.sh (mk A.b)) from .ob ⟨A.b, rfl, rfl⟩) a2)) (fun x z => z) q⟩,
   fun ρ Q Q' E E' hq he ⟨A, R, q1, q2⟩ => ⟨A, R, q1, hr.mono _ _ _ _ _ (fun ss hss => hq _ hss) he q2⟩⟩
theorem by_set {ρ : En} {j : Nat} {s : Sl} (h : ByE i ρ) (hs : s.by = true) : ByE i (ρ.set j s) := fun k t hk ht => by
  by_cases z : j = k
  · subst z
    by_cases hl : j < ρ.length
    · rw [List.getElem?_set_self hl] at ht; cases ht; exact hs
    · rw [List.getElem?_eq_none (by rw [List.length_set]; omega)] at ht; cases ht
  · rw [List.getElem?_set_ne z] at ht
    exact h k t hk ht
/-- thing, after, deed = f(..); fine, told = after is not None, told(deed) -/
def enD (ρ : En) (it ia id : Nat) (dt d2 : PyData) : En := ((ρ.set it (.sh dt)).set ia (.sh d2)).set id .un
def sDeed (i n n1 ib it ia id iF iT : Nat) (CS : Addr) (r1 r2 : Str) (cd : CZ) (tab : List Ent) (ws : PWp) : SW := fun ρ D => ∃ A R, ρ[i]? = some (.rg A R) ∧ ByE i ρ ∧ (ia < ρ.length ∧ id < ρ.length) ∧ ws ρ (fun ss => ss.length = n ∧ cd ss fun ρL d2 l => ∃ (t : Ent) (dt : PyData) (ds : List PyData), t ∈ tab ∧ t.l = l ∧ ρL[ib]? = some (.sh (mk A.b)) ∧ ρL[n1]? = some (.sh dt) ∧ (t.js.map fun j => ρL[j]?) = ds.map (fun d => some (Sl.sh d)) ∧
  (t.cG A R (ds.map .sh) (fun A' R' => A'.b = A.b ∧ D.nx (((((enD ρ it ia id dt d2).set i (.rg A' R')).set iF (.sh (.bool (!isN d2)))).set iT (.sh (.str r2))))) ∨
   t.cD (.rr R :: ds.map .sh) (fun _ => False) (fun x => x.cls = CS ∧ D.nx ((((enD ρ it ia id dt d2).set iF (.sh (.bool (!isN d2)))).set iT (.sh (.str r1))))))) (fun _ => False)
theorem dss_deed {n n1 ib it ia id iF iT k kd : Nat} {CS : Addr} {r1 r2 qd : Str} {fD gT cgT : Addr} {fdD fdT : FuncData} {psD NgT : List Str} {cd : CZ} {tab : List Ent} {ws : PWp} {xD xT aT xa xd xF xU : Str} {stT : Stmt} {mkX : Around → List Env → Shared → Hp → XK → Cx} {w : SW} {rest : List Stmt} {ts1 : List Expr} {t1 : TGs} {jn kt1 kt2 kt3 : Nat}
    {p1 p2 p3 p4 p5 p6 p7 p8 p9 p10 p11 p12 p13 pF pU : Pos}
    (RC : RgC X.K C) (hc : X.calm = true) (kn : T.kn = [])
    -- the first statement
    (FD : FnOk X.prog X.w X.K X.mg X.base (L2.CX X.prog X.w) kd fD fdD psD (spZ T X.K mkX n1 n cd)) (mcd : MonoCZ cd) (hrD : Room kd X.A) (hgD : Gl X xD) (hmD : X.mg xD = some (.ref fD)) (hkD : PySem.W.keepIn X.K (.ref fD) = true) (hbD : Binds X.K fdD psD []) (tk : Takes X W) (h : DP T X W (e :: es) ws)
    (hg1 : PGs X ts1 t1) (ht1 : TNames X ts1 [it, ia, id] t1) (hn1 : (assignEach ts1 X.env).length = 3) (hst1 : (assignEach ts1 X.env).findIdx? (·.1) = none) (hs1 : swapsWithSole [.Tuple ts1 kt1 p1] (.Call (.Name xD p2) (e :: es) [] p3) p4.line X.env = pure false) (hw1 : swappedStores [.Tuple ts1 kt1 p1] (.Call (.Name xD p2) (e :: es) [] p3) X.env = pure none) (ha1 : (assignEach [.Tuple ts1 kt1 p1] X.env).map (·.2) = [assign (.Tuple ts1 kt1 p1) X.env])
    (heD : starEach (e :: es) X.env = (false, eval e X.env) :: starEach es X.env) (hplD : (backTo p3 (starEach es X.env)).any (·.1) = false)
    -- the second
    (hva : PE X (.Name xa p5) (tVar ia)) (hvd : PE X (.Name xd p6) (tVar id)) (hglT : Gl X xT) (hmgT : X.mg xT = some (.ref gT)) (FT : FunC X.K xT stT gT cgT fdT) (hbT : L2.Binds X.K fdT [aT] []) (SgT : FnScope NgT [aT] (defScope stT)) (hNgT : NgT[0]? = some aT) (hvaT : Vis (defScope stT) aT)
    (hG : GivesTo X NgT xT (defScope stT) gT (.ref cgT) (defBody stT) aT qd (TToldB X.K CS r1 r2)) (hex : PySem.W.exmOne X.K (.ref CS) (.ref CS) = some true) (hr : Room (k + 2) X.A) (hqd : ∀ Ad outd sd Hd Ed, (mkX Ad outd sd Hd Ed).env.qual ++ "<lambda>" = qd) (hX : ∀ Ad outd sd Hd Ed, (mkX Ad outd sd Hd Ed).prog = X.prog ∧ (mkX Ad outd sd Hd Ed).w = X.w ∧ (mkX Ad outd sd Hd Ed).K = X.K ∧ (mkX Ad outd sd Hd Ed).mg = X.mg ∧ (mkX Ad outd sd Hd Ed).base = X.base)
    (htab : ∀ t ∈ tab, EntOk T X C ib k mkX t)
    (hN : X.N.Nodup) (hiF : X.N[iF]? = some xF) (hiT : X.N[iT]? = some xU) (hFT : iF ≠ iT) (hxF : X.env.scope.names.lookup xF = some .local) (hxU : X.env.scope.names.lookup xU = some .local)
    (hw2 : swappedStores [.Tuple [.Name xF pF, .Name xU pU] kt2 p7] (.Tuple [.Compare (.Name xa p5) [.IsNot] [.Constant .none jn p8] p9, .Call (.Name xT p10) [.Name xd p6] [] p11] kt3 p12) X.env = pure (some [xF, xU])) (hs2 : swapsWithSole [.Tuple [.Name xF pF, .Name xU pU] kt2 p7] (.Tuple [.Compare (.Name xa p5) [.IsNot] [.Constant .none jn p8] p9, .Call (.Name xT p10) [.Name xd p6] [] p11] kt3 p12) p13.line X.env = pure false)
    (hni : it ≠ i ∧ ia ≠ i ∧ id ≠ i) (hlen : it ≠ ia ∧ it ≠ id ∧ ia ≠ id)
    (hrest : DSs T X W rest w)
    (hmT : behindInMarks .IsNot (.Constant .none jn p8) = false := by rfl) (hdbD : (xD == ("__debug__" : Str)) = false := by decide) (hdbT : (xT == ("__debug__" : Str)) = false := by decide) (hdT : (aT == ("__debug__" : Str)) = false := by decide) (hcdT : (aT == ("__classdict__" : Str)) = false := by decide)
    (hse : starEach [.Name xd p6] X.env = (false, eval (.Name xd p6) X.env) :: starEach [] X.env := by rfl) (hse2 : starEach [.Compare (.Name xa p5) [.IsNot] [.Constant .none jn p8] p9, .Call (.Name xT p10) [.Name xd p6] [] p11] X.env = (false, eval (.Compare (.Name xa p5) [.IsNot] [.Constant .none jn p8] p9) X.env) :: starEach [.Call (.Name xT p10) [.Name xd p6] [] p11] X.env := by rfl) (hse3 : starEach [.Call (.Name xT p10) [.Name xd p6] [] p11] X.env = (false, eval (.Call (.Name xT p10) [.Name xd p6] [] p11) X.env) :: starEach [] X.env := by rfl) :
    DSs T X W (.Assign [.Tuple ts1 kt1 p1] (.Call (.Name xD p2) (e :: es) [] p3) p4 :: .Assign [.Tuple [.Name xF pF, .Name xU pU] kt2 p7] (.Tuple [.Compare (.Name xa p5) [.IsNot] [.Constant .none jn p8] p9, .Call (.Name xT p10) [.Name xd p6] [] p11] kt3 p12) p13 :: rest) (sSeq (sDeed i n n1 ib it ia id iF iT CS r1 r2 cd tab ws) w) := by
  refine ⟨pss_mono (pss_cons (ps_asg (pe_callS (E := WE W) FD hrD hgD hmD hkD hbD (fun σ => passAt tk σ) h.pa hdbD heD hplD) (pg_tup hc hg1 hn1 hst1) hs1 hw1 ha1)
    (pss_cons (ps_par hc hN hiF hiT hFT hxF hxU (pa_cons (pe_cmpR op_notN hva pe_non hmT) (pa_cons (pe_toldZ (k := k) (TT := TToldB X.K CS r1 r2) hglT hmgT FT hbT SgT hNgT hvaT hG hr hvd hdbT hdT hcdT hse) pa_nil hse3) hse2) hw2 hs2) hrest.ps)) fun D σ H q => ?_, fun ρ D D' l q => ?_⟩
  · obtain ⟨G, ρ, r, fa, A, R, hi, by_, ⟨lia, lid⟩, q⟩ := q
    refine ⟨G, ρ, r, h.mono _ _ _ _ _ (fun ss hss vs H1 rr1 a1 => ?_) (fun _ z => z.elim) q⟩
    obtain ⟨ra, no⟩ := args_rep rr1 a1
    refine ⟨G.O, ss, hss.1, ra, no, mcd _ _ _ (fun ρL d2 l hz v H2 Ad outd sd Hd Ed cs σL f c' p v1 v2 X1 => ?_) hss.2⟩
    obtain ⟨t, dt, ds, ht, rfl, hb, hdt, hj, q⟩ := hz
    have E0 := htab t ht
    have rr2 : Rep T X.K G ρ σ H2 := rr1.forth X1.bk
    obtain ⟨x0, e0, a0⟩ := X1.sl n1 dt hdt
    rw [X1.at1] at e0
    cases e0
    have rA := rr2.setSh (i := it) (v := v1) (d := dt) a0
    have rB := rA.setSh (i := ia) (v := v2) (d := d2) X1.da2
    have rC : Rep T X.K G (enD ρ it ia id dt d2) (setV σ [it, ia, id] [v1, v2, .ref f]) H2 := rB.setSl (i := id) (v := .ref f) (s := .un) trivial (fun z => by cases z)
    have fC : FlApt G.fl (enD ρ it ia id dt d2) (setV σ [it, ia, id] [v1, v2, .ref f]) := ((fa.setSh (i := it) (v := v1) (d := dt)).setSh (i := ia) (v := v2) (d := d2)).setSl (i := id) (v := .ref f) (s := .un) (fun z => by cases z)
    have hiC : (enD ρ it ia id dt d2)[i]? = some (.rg A R) := by
      unfold enD
      rw [List.getElem?_set_ne hni.2.2, List.getElem?_set_ne hni.2.1, List.getElem?_set_ne hni.1]
      exact hi
    have byC : ByE i (enD ρ it ia id dt d2) := by_set (by_set (by_set by_ rfl) rfl) rfl
    have hcells : ∀ c ob, cs.lookup c = some ob → c ∉ G.O ∧ ∃ u, ob.data = .cell u := fun c ob z => ⟨fun y => (by
      obtain ⟨o, ho, _⟩ := rr1.dom c y
      rw [(X1.cl c ob z).1] at ho
      cases ho), (X1.cl c ob z).2⟩
    obtain ⟨g1, own, ap, hR⟩ := rC.rgAt hiC
    obtain ⟨dx, r', k1, _⟩ := hR.insC RC
    have kC : hidC cs H2 A.b = some (.ins C dx (rgF r' A.t A.d A.u)) := by rw [hidC_out (X1.ct.out k1 fun ob z => by cases z)]; exact k1
    obtain ⟨xb, eb, ab⟩ := X1.sl ib _ hb
    obtain rfl := mk_inv ab
    have lds : ds.length = t.js.length := by have := congrArg List.length hj; rw [List.length_map, List.length_map] at this; exact this.symm
    have sA : (setV σ [it, ia, id] [v1, v2, V.ref f])[ia]? = some (some v2) := by
      show (((σ.set it (some v1)).set ia (some v2)).set id (some (V.ref f)))[ia]? = _
      rw [List.getElem?_set_ne (Ne.symm hlen.2.2), List.getElem?_set_self (by rw [List.length_set, ← r.len]; exact lia)]
    have sD : (setV σ [it, ia, id] [v1, v2, V.ref f])[id]? = some (some (.ref f)) := by
      show (((σ.set it (some v1)).set ia (some v2)).set id (some (V.ref f)))[id]? = _
      rw [List.getElem?_set_self (by rw [List.length_set, List.length_set, ← r.len]; exact lid)]
    -- what is stored
    have fin : ∀ (y : Str) (H4 : Hp) (O4 : List Addr) (ρ4 : En), Rep T X.K ⟨G.Hb, O4, G.fl⟩ ρ4 (setV σ [it, ia, id] [v1, v2, .ref f]) H4 → FlApt G.fl ρ4 (setV σ [it, ia, id] [v1, v2, .ref f]) → w ((ρ4.set iF (.sh (.bool (!isN d2)))).set iT (.sh (.str y))) (endS T X.K W G D) →
        ∃ v u, [V.bl (!decide (v2 = .non)), V.str y] = [v, u] ∧ liftS T X.K W w D (setV (setV σ [it, ia, id] [v1, v2, .ref f]) [iF, iT] [v, u]) H4 := fun y H4 O4 ρ4 r4 f4 q4 => by
      have ed : decide (v2 = .non) = isN d2 := isN_of (.sh (D0 := T.dc) (O := G.O) X1.da2)
      exact ⟨_, _, rfl, ⟨G.Hb, O4, G.fl⟩, _, (r4.setSh (i := iF) (v := .bl (!decide (v2 = .non))) (d := .bool (!isN d2)) (by rw [ed]; exact .bl _)).setSh (i := iT) (v := .str y) (d := .str y) (.str _), (f4.setSh).setSh, q4⟩
    refine ⟨p, [v1, v2, .ref f], X1.val, SqT.of X1.tup, rfl, tnames_set ht1 rfl ?_⟩
    refine ⟨v2, sA, rfl, .ref f, sD, mkX Ad outd sd Hd Ed, cs, σL, f, c', t.l, tEnt T X.K C ib t, rfl, hqd _ _ _ _ _, E0.lz, X1.cz, (hX Ad outd sd Hd Ed).1, (hX Ad outd sd Hd Ed).2.1, (hX Ad outd sd Hd Ed).2.2.1, (hX Ad outd sd Hd Ed).2.2.2.1, (hX Ad outd sd Hd Ed).2.2.2.2, E0.bind, fun A outer s H E hR => E0.body Ad outd sd Hd Ed A outer s H E f c' hR, X1.fn, X1.fn, X1.ct, _, eb, A.b, dx, _, rfl, kC, E0.no _ _ _ _, ?_⟩
    refine tVs_run (B := hide G.O H2) X1.sl hj fun vs2 hv => ?_
    rcases q with q | q
    · refine .inl ⟨G.O, A, R, ds.map .sh, by rw [List.length_map, lds], args_cellG rC hiC X1.ct hcells kn hv, fun s hs => by obtain ⟨d, _, rfl⟩ := List.mem_map.mp hs; rfl, E0.mg _ _ _ _ _ (fun A' R' hq => ⟨hq.1, fun H3 bk hn => ?_⟩) q⟩
      obtain ⟨r4, f4⟩ := rC.fromG fC hiC byC hq.1 (bk.ret X1.ct hn)
      exact fin r2 _ _ _ r4 f4 hq.2
    · obtain ⟨rD, noD⟩ := args_cellD rC hiC byC X1.ct hcells kn hv
      refine .inr ⟨outO A G.O, .rr R :: ds.map .sh, by rw [List.length_cons, List.length_map, lds], rD, noD, E0.md _ _ _ _ _ (fun _ z => z.elim) (fun x hq H3 cls dd bk ex hn => ⟨true, by rw [ex.1, hq.1]; exact hex, fun _ => ?_, fun z => by cases z⟩) q⟩
      exact fin r1 _ G.O _ (rC.fromD hiC X1.ct hn (fun c ob z => (hcells c ob z).1) bk) fC hq.2
  · obtain ⟨A, R, h1, h2, h2', h3⟩ := q
    refine ⟨A, R, h1, h2, h2', h.mono _ _ _ _ _ (fun ss ⟨k1, k2⟩ => ⟨k1, mcd _ _ _ (fun ρL d2 lam ⟨t, dt, ds, g1, g2, g3, g4, g5, g6⟩ => ⟨t, dt, ds, g1, g2, g3, g4, g5, ?_⟩) k2⟩) (fun _ z => z) h3⟩
    rcases g6 with g6 | g6
    · exact .inl ((htab t g1).mg _ _ _ _ _ (fun A' R' hq => ⟨hq.1, hrest.mono _ _ _ l hq.2⟩) g6)
    · exact .inr ((htab t g1).md _ _ _ _ _ (fun _ z => z) (fun x hq => ⟨hq.1, hrest.mono _ _ _ l hq.2⟩) g6)
end
end PL
set_option Elab.async false
set_option linter.all false
set_option maxRecDepth 100000
set_option maxHeartbeats 2000000
namespace PL
open PySem PySem.Spec PyProof.Rows L2
open LamX (ExtN Tabs TabS)
section
variable {T : Tb} {X : Cx} {W : WX} {pos p p2 p3 pos' pos2 apos cpos : Pos} {e a b c o : Expr} {es : List Expr} {st : Stmt} {K : PySem.W.Frag} {G : Gh} {ρ ρ2 : En} {σ σ2 : L2.St} {H H' : Hp} {C : Addr} {A A' : RA} {R R' : Reg} {i : Nat} {D : Ends}
def rSt (T : Tb) (X : Cx) : List V → Hp → VK → Prop := fun xs H Q => ∃ (d : Addr) (kvs : List (List Int × V)) (G : Gh) (ρ : En) (σ : L2.St), xs = [.ref d] ∧ Rep T X.K G ρ σ H ∧ H d = some (.dT (kvs.map fun p => (ik p.1, p.2))) ∧ (PySem.W.AllAlike (kvs.map fun p => keyI p.1) ∧ PySem.W.Sortable (kvs.map fun p => keyI p.1)) ∧
  ∀ p vs H', Rep T X.K ⟨G.Hb, p :: G.O, G.fl⟩ ρ σ H' → p ∉ G.O → Apt ρ σ p → H' p = some (.lst vs) → DaAll X.K (hide (p :: G.O) H') vs (((kvs.map (·.1)).mergeSort (PySem.W.dataLe false keyI)).map keyI) → Q (.ref p) H'
theorem keys_out {us : List Value} {ks : List (List Int)} (h : PySem.W.EachIs (fun (u : Value) (k : List Int) => ∃ q : Addr, u = .ref q ∧ H q = some (.tup (k.map V.int))) us ks) (hO : ∀ q xs, H q = some (.tup xs) → q ∉ G.O) : ∃ vs, Vals vs us ∧ DaAll K (hide G.O H) vs (ks.map keyI) := by
  induction h with
  | nil => exact ⟨[], .nil, .nil⟩
  | cons h t ih =>
    obtain ⟨vs, h1, h2⟩ := ih
    obtain ⟨q, rfl, hq⟩ := h
    exact ⟨.ref q :: vs, .cons rfl h1, .cons (.tup (by rw [hide_out (hO q _ hq)]; exact hq) (daAll_ints _)) h2⟩
theorem depth_keyI (k : List Int) : (keyI k).depth ≤ 1 := by
  simp only [keyI, PyData.depth, depth_ints]
  omega
theorem cr_st {k : Nat} (hr : Room k X.A) : CallR X (.builtin "sorted") (rSt T X) := by
  intro pins s σ0 H xs us Q I rx q
  obtain ⟨d, kvs, G, ρ, σ, rfl, r, hd, ⟨al, so⟩, q⟩ := q
  have hu := hr.un
  obtain rfl := Vals.ref1 rx
  obtain ⟨hz, hs0, ys, kv, o, es, ep, ho, hx, hdat, hes, _⟩ := (show ObjOk X.prog X.w H s.heap d (.dT (kvs.map fun p => (ik p.1, p.2))) from I.hok d _ hd)
  have lk : kvs.length = ys.length := by have := Paired.length kv; rwa [List.length_map] at this
  have les : es.size = ys.length := by rw [← Array.length_toList, hes, List.length_map]
  rw [List.length_map] at hz
  refine Calls.call_function_entry kind_sorted plain_sorted entry_sorted (args_sorted1 _) ?_
  unfold Builtin.«sorted»
  refine wpAny_bind (m := checkCount "sorted" 1 1 _) (wpAny_pure (wpAny_bind (PySem.W.kdu_collect (A := X.A.in1) (kdl_raw hs0 hx hdat) hr.hd ho (by rw [les, ← lk]; exact hz) fun h' tk acc hk hacc => ?_)))
  have Ia : Inv X pins σ0 H { s with heap := h', toks := tk } := I.kept (t' := tk) hk
  have la : acc.toList.length = (kvs.map (·.1)).length := by rw [Array.length_toList, hacc.1, List.length_map, lk, les]
  have atK : ∀ (j : Nat) (v : Value) (k : List Int), acc.toList[j]? = some v → (kvs.map (·.1))[j]? = some k → ∃ q : Addr, v = .ref q ∧ H q = some (.tup (k.map V.int)) := fun j v k h1 h2 => by
    obtain ⟨en, e1, e2⟩ := hacc.2 j v (by rw [← Array.getElem?_toList]; exact h1)
    rw [List.getElem?_map] at h2
    cases e3 : kvs[j]? with
    | none => rw [e3] at h2; cases h2
    | some p =>
      rw [e3] at h2
      cases h2
      obtain ⟨y, g1, g2, g3, g4⟩ := LiI.paired_get kv (by rw [List.getElem?_map, e3]; rfl)
      have ee : en = entryOfKey (tupleKind (mixKind X.prog X.w)) y := by
        have h3 : es.toList[j]? = some en := by rw [Array.getElem?_toList]; exact e1
        rw [hes, List.getElem?_map, g1] at h3
        exact (Option.some.inj h3).symm
      refine ⟨y.2.1, by rw [e2, ee]; rfl, ?_⟩
      rw [g3]
      show some (HO.tup ((ik p.1).map kV)) = _
      unfold ik
      rw [List.map_map]
      rfl
  have hL : acc.toList.length ≤ sizeLine := by rw [la, List.length_map]; exact hz
  refine wpAny_bind (wpAny_newList ?_ hL)
  have hoL : (h'.push (seqObj "list" acc.toList.toArray 0)).get? h'.objs.size = some (seqObj "list" acc.toList.toArray 0) := Heap.get?_push_size _ rfl
  have eal : (kvs.map (·.1)).map keyI = kvs.map fun p => keyI p.1 := by rw [List.map_map]; rfl
  refine wpAny_bind (wpAny_holding (PySem.W.list_sort_data (enc := keyI) (bs := kvs.map (·.1)) (R := fun u k => ∃ q : Addr, u = .ref q ∧ H q = some (.tup (k.map V.int))) hoL (each_at la atK)
    (each_at la fun j v k h1 h2 => ?_) (by rw [eal]; exact al) (by rw [eal]; exact so) (by rw [List.length_map]; exact hz) (fun b _ => by have := depth_keyI b; show X.A.units + 1 + 1 + (keyI b).depth < _; omega) fun out hl eo => ?_))
  · obtain ⟨q, rfl, hq⟩ := atK j v k h1 h2
    have kd : Da X.K H (.ref q) (keyI k) := .tup hq (daAll_ints k)
    obtain ⟨as1, r1⟩ := Dp.reads I _ _ (.ref q) (kd.dp (plain_ints k)) rfl
    exact ⟨as1, PyProof.Rows.Reads.keeps (fun b o e => Heap.get?_push_of_some _ (hk b o e)) r1, fun z => by
      obtain ⟨o', e'⟩ := reads_there r1 _ z
      exact absurd (Heap.lt_size (hk _ _ e')) (Nat.lt_irrefl _)⟩
  · obtain ⟨ce, hce⟩ := sortedHeap_at (vs := acc.toList) (out := out.toArray) hoL
    obtain ⟨vs, hv, hda⟩ := keys_out (K := X.K) (H := H) (G := G) eo fun q xs hq z => by
      obtain ⟨o, ho, n⟩ := r.dom q z
      rw [hq] at ho
      cases ho
      exact n.tp _ rfl
    have hn : H h'.objs.size = none := Ia.hok.fresh (Nat.le_refl _)
    obtain ⟨q1, q2, q3, q4, q5⟩ := r.newL hn hda
    have hlen : vs.length ≤ sizeLine := by rw [hv.length, hl, List.length_map]; exact hz
    have kS : ∀ b o, h'.get? b = some o → (sortedHeap (h'.push (seqObj "list" acc.toList.toArray 0)) h'.objs.size acc.toList out.toArray).get? b = some o := fun b o e2 => by
      rw [sortedHeap_old (Nat.ne_of_lt (Heap.lt_size e2)) (by rw [size_push']; exact Nat.lt_succ_of_lt (Heap.lt_size e2))]
      exact Heap.get?_push_of_some _ e2
    exact wpAny_pure ⟨_, rfl, .ref _, L2.upd H h'.objs.size (.lst vs), Ia.laid (t' := tk) kS (Nat.le_refl _) ⟨hlen, out, ce, hv, hce⟩, rfl, q _ _ _ q1 q2 q3 q4 q5⟩
def wSortT (i : Nat) : PW := fun ρ Q E => ∃ kvs : List (List Int × PyData), ρ[i]? = some (.ot (kvs.map fun p => (ik p.1, p.2))) ∧ (PySem.W.AllAlike (kvs.map fun p => keyI p.1) ∧ PySem.W.Sortable (kvs.map fun p => keyI p.1)) ∧ Q (.list (((kvs.map (·.1)).mergeSort (PySem.W.dataLe false keyI)).map keyI))
theorem ot_ik : ∀ {vs : List (List Key × V)} {kvs : List (List Int × PyData)}, vs.map (·.1) = (kvs.map fun p => (ik p.1, p.2)).map (·.1) → ∃ ws : List (List Int × V), vs = ws.map (fun p => (ik p.1, p.2)) ∧ ws.map (·.1) = kvs.map (·.1)
  | [], [], _ => ⟨[], rfl, rfl⟩
  | [], _ :: _, h => by cases h
  | _ :: _, [], h => by cases h
  | (k, v) :: r, p :: t, h => by
    injection h with h1 h2
    obtain ⟨ws, e1, e2⟩ := ot_ik (vs := r) (kvs := t) h2
    have h1 : k = ik p.1 := h1
    exact ⟨(p.1, v) :: ws, by rw [List.map_cons, ← e1, h1], by rw [List.map_cons, List.map_cons, e2]⟩
theorem df_sortt {k i : Nat} (hr : Room k X.A) (hg : Gl X "sorted") (hm : X.mg "sorted" = none) (ho : PE X e (tVar i)) (he : starEach [e] X.env = (false, eval e X.env) :: starEach [] X.env := by rfl) : DF T X W (.Call (.Name "sorted" p) [e] [] pos) (wSortT i) :=
  ⟨pe_mono (pe_callB (cr_st (T := T) hr) hg hm (by decide +kernel : bootBuiltins "sorted" = some (.builtin "sorted")) (pa_cons ho pa_nil he) (by decide) (by decide) he rfl) fun σ H Q q => by
    obtain ⟨G, ρ, r, kvs, hi, ⟨al, so⟩, q⟩ := q
    obtain ⟨v, h1, d, vs, rfl, h2, h3, h4, h5⟩ := r.slot i _ hi
    obtain ⟨ws, rfl, e2⟩ := ot_ik h4
    have ek : ws.map (fun p => keyI p.1) = kvs.map fun p => keyI p.1 := by
      have := congrArg (List.map keyI) e2
      rwa [List.map_map, List.map_map] at this
    exact ⟨_, h1, d, ws, G, ρ, σ, rfl, r, h3, ⟨by rw [ek]; exact al, by rw [ek]; exact so⟩, fun p us H' r' na ap h6 h7 => q p us _ H' rfl r' na ap h6 (by rw [← e2]; exact h7)⟩,
   fun ρ Q Q' E E' hq he ⟨kvs, h1, h2, h3⟩ => ⟨kvs, h1, h2, hq _ h3⟩⟩
def wTupM (w : PW) : PW := fun ρ Q E => w ρ (fun d => match d with | .list xs => NK xs ∧ Q (ptM xs) | _ => False) E
theorem de_tupM {w : PW} (hg : Gl X "tuple") (hm : X.mg "tuple" = none) (h : DR T X W e w) (he : starEach [e] X.env = (false, eval e X.env) :: starEach [] X.env := by rfl) : DE T X W (.Call (.Name "tuple" p) [e] [] pos) (wTupM w) :=
  ⟨pe_mono (pe_callTy (call_tupleF (X := X)) hg hm (by decide +kernel : bootBuiltins "tuple" = some (.type "tuple")) (pa_cons h.pe pa_nil he) (by decide) (by decide) he rfl) fun σ H Q q => by
    obtain ⟨G, ρ, r, q⟩ := q
    refine ⟨G, ρ, r, h.mono _ _ _ _ _ (fun d hd v H' r' t => ?_) (fun _ z => z) q⟩
    cases d with
    | list ds =>
      obtain ⟨a, vs, rfl, ha, hx⟩ := t.da
      refine ⟨a, vs, rfl, SqL.of ha, fun l ob hob hl => ?_⟩
      obtain ⟨r2, e2, np, h2⟩ := r'.new (o := .frz ob (.tup vs)) hl
      exact hd.2 _ _ r2 (.pt h2 hob hd.1 (hx.ext e2))
    | _ => exact hd.elim, fun ρ Q Q' E E' hq he q => h.mono _ _ _ _ _ (fun d hd => by cases d <;> first | exact ⟨hd.1, hq _ hd.2⟩ | exact hd) he q⟩
theorem pe_tupF {k : Nat} : PE X (.Tuple [] k pos) (fun σ H Q => ∀ ob p, ob.dict = none → H p = none → Q (.ref p) (upd H p (.frz ob (.tup [])))) := by
  refine ⟨fun pins s σ H Q I hq => ?_⟩
  refine wpAny_Tuple_spliced (thn (pa_nil.run pos pins s σ H (fun xs H1 => xs = [] ∧ H1 = H) I ⟨rfl, rfl⟩) fun us s1 ⟨xs, H1, I1, r, ex, eH⟩ => ?_)
  subst ex eH
  cases r
  refine ⟨Nat.zero_le _, ?_⟩
  have hf : H1 s1.heap.objs.size = none := I1.hok.fresh (Nat.le_refl _)
  refine ⟨.ref s1.heap.objs.size, upd H1 s1.heap.objs.size (.frz { cls := .type "tuple", data := .seq #[] } (.tup [])), I1.laid (t' := s1.toks) (fun b u e => Heap.get?_push_of_some _ e) (Nat.le_refl _) ?_, rfl, hq _ _ rfl hf⟩
  exact ⟨Heap.get?_push_size _ rfl, Nat.zero_le _, [], .nil, ⟨_, Heap.get?_push_size _ rfl, rfl, _, rfl⟩⟩
end
end PL
set_option Elab.async false
set_option linter.all false
set_option maxRecDepth 100000
set_option maxHeartbeats 2000000
namespace PL
open PySem PySem.Spec PyProof.Rows L2
open LamX (ExtN Tabs TabS)
def spRI2 (T : Tb) (C : Addr) (ns : List Int) : Sp := fun vs H Q _ => ∃ p dx l, vs = [.ref p, .ref l] ∧ H p = some (.ins C dx []) ∧ H l = some (.lst (ns.map V.int)) ∧ TOk T H ∧
  ∀ H' r t d u, TOk T H' → (∀ b o, b ≠ p → H b = some o → (∀ ps, o ≠ .tbl ps) → H' b = some o) → H' p = some (.ins C dx (rgF r t d u)) → H' r = some (.tup (ns.map V.int)) → H' t = some (.dT []) → H' d = some (.lst []) → H' u = some (.lst []) → d ≠ u →
    ((∀ o, H r = some o → ∃ ps, o = .tbl ps) ∧ (∀ o, H t = some o → ∃ ps, o = .tbl ps) ∧ (∀ o, H d = some o → ∃ ps, o = .tbl ps) ∧ ∀ o, H u = some o → ∃ ps, o = .tbl ps) → Q .non H'
section
variable {T : Tb} {K : PySem.W.Frag} {H : Hp}
theorem rg_fields (r t d u : Addr) : putF "undone" (.ref u) (putF "deeds" (.ref d) (putF "things" (.ref t) (putF "rooms" (.ref r) []))) = rgF r t d u := rfl
theorem TOk.new {q : Addr} {o : HO} (t : TOk T H) (h : H q = none) : TOk T (L2.upd H q o) := t.keep fun b u e => by rw [upd_ne (ne_of_none e h)]; exact e
theorem ri_rep2 {ns : List Int} {p l C dx : Addr} (hp : H p = some (.ins C dx [])) (hl : H l = some (.lst (ns.map V.int))) (t : TOk T H) : Rep { T with dc := [] } K ⟨H, [], []⟩ [.sh (mk p), .sh (.list (ns.map .int)), .un] [some (.ref p), some (.ref l), none] H := by
  refine ⟨rfl, fun i s hs => ?_, fun i j s t a hij hi hj hs ht => ?_, ⟨t.g, t.l, t.n, t.c, t.k⟩, fun b o e _ => by rw [hide_nil]; exact e, (fun a h => by cases h), (fun a h => by cases h), fun a h => by cases h⟩
  · match i with
    | 0 => cases hs; exact ⟨_, rfl, _, rfl, .ob ⟨p, rfl, rfl⟩⟩
    | 1 => cases hs; exact ⟨_, rfl, _, rfl, .lst (by rw [hide_nil]; exact hl) (daAll_ints ns)⟩
    | 2 => cases hs; exact ⟨_, rfl, trivial⟩
    | n + 3 => simp at hs
  · match i with
    | 0 => cases hi; cases hs
    | 1 => cases hi; cases hs
    | 2 => cases hi; cases hs
    | n + 3 => simp at hi
theorem ok_ri2 {ns : List Int} {w : World} {P : Program} {mg : Str → Option Value} {base : Heap} {x y : Str} {st s1 : Stmt} {f c C : Addr} {fd : FuncData} {N : List Str} {k : Nat} {u1 : SW} {p1 p2 p3 p4 p5 p6 p7 p8 p9 p10 p11 p12 p13 p14 p15 p16 p17 p18 : Pos} (F : FunM K x y st f c fd) (S : FnScope N ["self", "rooms"] (defScope st)) (hN : N = [("self" : Str), "rooms", "room"]) (R : RgC K C)
    (htx : defBody st = [s1, .Assign [.Attribute (.Name "self" p1) "rooms" p2] (.Call (.Name "tuple" p3) [.Name "rooms" p4] [] p5) p6, .Assign [.Attribute (.Name "self" p7) "things" p8] (.Dict [] [] p9) p10, .Assign [.Attribute (.Name "self" p11) "deeds" p12] (.List [] p13) p14, .Assign [.Attribute (.Name "self" p15) "undone" p16] (.List [] p17) p18])
    (hs : (defScope st).names.lookup ("self" : Str) = some .local) (hs2 : (defScope st).names.lookup ("rooms" : Str) = some .local) (hgt : (defScope st).names.lookup ("tuple" : Str) = some .globalImplicit) (hmt : mg "tuple" = none)
    (h1 : ∀ (A : Around) (outer : List Env) (s : Shared) (H : Hp) (E : XK), Room k (A.deeper (envOfC y (defScope st) s.heap.objs.size f (.ref c))) → DS { T with dc := [] } (cxOf (L2.CX P w) P w K mg base N y (defScope st) f (.ref c) A outer s H E) (fun cls d _ H => E cls d H) s1 u1)
    (hu : ∀ p D, D.nx [.sh (mk p), .sh (.list (ns.map .int)), .un] → u1 [.sh (mk p), .sh (.list (ns.map .int)), .un] D)
    (hw : ∀ (A : Around) (outer : List Env) (s : Shared) (H : Hp) (E : XK), swapsWith (.Call (.Name "tuple" p3) [.Name "rooms" p4] [] p5) (some (.Attribute (.Name "self" p1) "rooms" p2)) p6.line (cxOf (L2.CX P w) P w K mg base N y (defScope st) f (.ref c) A outer s H E).env = pure false)
    (hw2 : ∀ (A : Around) (outer : List Env) (s : Shared) (H : Hp) (E : XK), swapsWith (.Dict [] [] p9) (some (.Attribute (.Name "self" p7) "things" p8)) p10.line (cxOf (L2.CX P w) P w K mg base N y (defScope st) f (.ref c) A outer s H E).env = pure false)
    (hw3 : ∀ (A : Around) (outer : List Env) (s : Shared) (H : Hp) (E : XK), swapsWith (.List [] p13) (some (.Attribute (.Name "self" p11) "deeds" p12)) p14.line (cxOf (L2.CX P w) P w K mg base N y (defScope st) f (.ref c) A outer s H E).env = pure false)
    (hw4 : ∀ (A : Around) (outer : List Env) (s : Shared) (H : Hp) (E : XK), swapsWith (.List [] p17) (some (.Attribute (.Name "self" p15) "undone" p16)) p18.line (cxOf (L2.CX P w) P w K mg base N y (defScope st) f (.ref c) A outer s H E).env = pure false) :
    FnOk P w K mg base (L2.CX P w) (k + 1) f fd ["self", "rooms"] (spRI2 T C ns) := by
  subst hN
  refine F.okX S (fun vs H Q E h => ?_) (fun A outer s H vs Q E hr h => ?_)
  · obtain ⟨p, dx, l, rfl, _⟩ := h
    rfl
  · obtain ⟨p, dx, l, rfl, hp, hl, ht, q⟩ := h
    rw [htx]
    let X := cxOf (L2.CX P w) P w K mg base ["self", "rooms", "room"] y (defScope st) f (.ref c) A outer s H E
    have pv0 : ∀ {p : Pos}, PE X (.Name "self" p) (tVar 0) := fun {p} => pe_var (X := X) (i := 0) rfl (.inl hs)
    have pv1 : ∀ {p : Pos}, PE X (.Name "rooms" p) (tVar 1) := fun {p} => pe_var (X := X) (i := 1) rfl (.inl hs2)
    refine ⟨_, pss_cons (h1 A outer s H E hr).ps (pss_cons (ps_fld pv0 (pe_tupleOf (X := X) hgt hmt pv1) (hw A outer s H E)) (pss_cons (ps_fld pv0 pe_dnewT (hw2 A outer s H E)) (pss_cons (ps_fld pv0 (pe_lst pa_nil) (hw3 A outer s H E)) (pss_one (ps_fld pv0 (pe_lst pa_nil) (hw4 A outer s H E)))))), ?_⟩
    refine ⟨⟨H, [], []⟩, _, ri_rep2 (T := T) hp hl ht, fun q hq => (by cases hq), hu p _ fun σ' H' O' r fa => ?_⟩
    obtain ⟨v0, e0, y0, rfl, d0⟩ := r.slot 0 _ rfl
    have ey := mk_inv d0
    subst ey
    obtain ⟨v1, e1, y1, rfl, d1⟩ := r.slot 1 _ rfl
    obtain ⟨l', vs, rfl, hl', evs⟩ : ∃ l' vs, y1 = .ref l' ∧ H' l' = some (.lst vs) ∧ vs = ns.map V.int := by
      cases d1 with
      | lst h hv => exact ⟨_, _, rfl, (hide_some h).2, DaAll.ints ns hv⟩
    subst evs
    have hp' : H' p = some (.ins C dx []) := (hide_some (r.ext p _ hp fun ps z => by cases z)).2
    have t0 : TOk T H' := ⟨r.tab.g, r.tab.l, r.tab.n, r.tab.c, r.tab.k⟩
    have kp0 : ∀ b o, H b = some o → (∀ ps, o ≠ .tbl ps) → H' b = some o := fun b o e n => (hide_some (r.ext b o e n)).2
    refine ⟨_, e1, .inl ⟨l', ns.map V.int, rfl, SqL.of hl', fun q1 n1 => ?_⟩⟩
    have np1 : p ≠ q1 := ne_of_none hp' n1
    refine ⟨_, e0, p, C, dx, [], rfl, by rw [upd_ne np1]; exact hp', R.cl, R.n1, by show 0 < 1000; decide, ?_⟩
    have a1 : upd (upd H' q1 (.tup (ns.map V.int))) p (.ins C dx (putF "rooms" (.ref q1) [])) p = some (.ins C dx (putF "rooms" (.ref q1) [])) := upd_same
    have t1 : TOk T (upd (upd H' q1 (.tup (ns.map V.int))) p (.ins C dx (putF "rooms" (.ref q1) []))) := (t0.new n1).ins (by rw [upd_ne np1]; exact hp')
    have k1 : ∀ b o, b ≠ p → H b = some o → (∀ ps, o ≠ .tbl ps) → upd (upd H' q1 (.tup (ns.map V.int))) p (.ins C dx (putF "rooms" (.ref q1) [])) b = some o := fun b o hb e n => by rw [upd_ne hb, upd_ne (ne_of_none (kp0 b o e n) n1)]; exact kp0 b o e n
    have c1 : upd (upd H' q1 (.tup (ns.map V.int))) p (.ins C dx (putF "rooms" (.ref q1) [])) q1 = some (.tup (ns.map V.int)) := by rw [upd_ne (Ne.symm np1)]; exact upd_same
    have f1 : ∀ o, H q1 = some o → ∃ ps, o = .tbl ps := fun o e => by
      cases o with
      | tbl ps => exact ⟨ps, rfl⟩
      | _ => have := kp0 q1 _ e (fun ps z => by cases z); rw [n1] at this; cases this
    generalize upd (upd H' q1 (.tup (ns.map V.int))) p (.ins C dx (putF "rooms" (.ref q1) [])) = A1 at a1 t1 k1 c1 ⊢
    intro q2 n2
    have np2 : p ≠ q2 := ne_of_none a1 n2
    refine ⟨_, e0, p, C, dx, _, rfl, by rw [upd_ne np2]; exact a1, R.cl, R.n2, by show 1 < 1000; decide, ?_⟩
    have a2 : upd (upd A1 q2 (.dT [])) p (.ins C dx (putF "things" (.ref q2) (putF "rooms" (.ref q1) []))) p = some (.ins C dx (putF "things" (.ref q2) (putF "rooms" (.ref q1) []))) := upd_same
    have b2 : upd (upd A1 q2 (.dT [])) p (.ins C dx (putF "things" (.ref q2) (putF "rooms" (.ref q1) []))) q2 = some (.dT []) := by rw [upd_ne (Ne.symm np2)]; exact upd_same
    have t2 : TOk T (upd (upd A1 q2 (.dT [])) p (.ins C dx (putF "things" (.ref q2) (putF "rooms" (.ref q1) [])))) := (t1.new n2).ins (by rw [upd_ne np2]; exact a1)
    have k2 : ∀ b o, b ≠ p → H b = some o → (∀ ps, o ≠ .tbl ps) → upd (upd A1 q2 (.dT [])) p (.ins C dx (putF "things" (.ref q2) (putF "rooms" (.ref q1) []))) b = some o := fun b o hb e n => by rw [upd_ne hb, upd_ne (ne_of_none (k1 b o hb e n) n2)]; exact k1 b o hb e n
    have f2 : ∀ o, H q2 = some o → ∃ ps, o = .tbl ps := fun o e => by
      cases o with
      | tbl ps => exact ⟨ps, rfl⟩
      | _ => have := k1 q2 _ (Ne.symm np2) e (fun ps z => by cases z); rw [n2] at this; cases this
    have c2 : upd (upd A1 q2 (.dT [])) p (.ins C dx (putF "things" (.ref q2) (putF "rooms" (.ref q1) []))) q1 = some (.tup (ns.map V.int)) := by rw [upd_ne (Ne.symm np1), upd_ne (ne_of_none c1 n2)]; exact c1
    generalize upd (upd A1 q2 (.dT [])) p (.ins C dx (putF "things" (.ref q2) (putF "rooms" (.ref q1) []))) = A2 at a2 b2 t2 k2 c2 ⊢
    refine ⟨Nat.zero_le _, fun q3 n3 => ?_⟩
    have np3 : p ≠ q3 := ne_of_none a2 n3
    refine ⟨_, e0, p, C, dx, _, rfl, by rw [upd_ne np3]; exact a2, R.cl, R.n3, by show 2 < 1000; decide, ?_⟩
    have a3 : upd (upd A2 q3 (.lst [])) p (.ins C dx (putF "deeds" (.ref q3) (putF "things" (.ref q2) (putF "rooms" (.ref q1) [])))) p = some (.ins C dx (putF "deeds" (.ref q3) (putF "things" (.ref q2) (putF "rooms" (.ref q1) [])))) := upd_same
    have b3 : upd (upd A2 q3 (.lst [])) p (.ins C dx (putF "deeds" (.ref q3) (putF "things" (.ref q2) (putF "rooms" (.ref q1) [])))) q2 = some (.dT []) := by rw [upd_ne (Ne.symm np2), upd_ne (ne_of_none b2 n3)]; exact b2
    have t3 : TOk T (upd (upd A2 q3 (.lst [])) p (.ins C dx (putF "deeds" (.ref q3) (putF "things" (.ref q2) (putF "rooms" (.ref q1) []))))) := (t2.new n3).ins (by rw [upd_ne np3]; exact a2)
    have k3 : ∀ b o, b ≠ p → H b = some o → (∀ ps, o ≠ .tbl ps) → upd (upd A2 q3 (.lst [])) p (.ins C dx (putF "deeds" (.ref q3) (putF "things" (.ref q2) (putF "rooms" (.ref q1) [])))) b = some o := fun b o hb e n => by rw [upd_ne hb, upd_ne (ne_of_none (k2 b o hb e n) n3)]; exact k2 b o hb e n
    have c3 : upd (upd A2 q3 (.lst [])) p (.ins C dx (putF "deeds" (.ref q3) (putF "things" (.ref q2) (putF "rooms" (.ref q1) [])))) q1 = some (.tup (ns.map V.int)) := by rw [upd_ne (Ne.symm np1), upd_ne (ne_of_none c2 n3)]; exact c2
    have d3 : upd (upd A2 q3 (.lst [])) p (.ins C dx (putF "deeds" (.ref q3) (putF "things" (.ref q2) (putF "rooms" (.ref q1) [])))) q3 = some (.lst []) := by rw [upd_ne (Ne.symm np3)]; exact upd_same
    have f3 : ∀ o, H q3 = some o → ∃ ps, o = .tbl ps := fun o e => by
      cases o with
      | tbl ps => exact ⟨ps, rfl⟩
      | _ => have := k2 q3 _ (Ne.symm np3) e (fun ps z => by cases z); rw [n3] at this; cases this
    generalize upd (upd A2 q3 (.lst [])) p (.ins C dx (putF "deeds" (.ref q3) (putF "things" (.ref q2) (putF "rooms" (.ref q1) [])))) = A3 at a3 b3 t3 k3 c3 d3 ⊢
    refine ⟨Nat.zero_le _, fun q4 n4 => ?_⟩
    have np4 : p ≠ q4 := ne_of_none a3 n4
    refine ⟨_, e0, p, C, dx, _, rfl, by rw [upd_ne np4]; exact a3, R.cl, R.n4, by show 3 < 1000; decide, ?_⟩
    have f4 : ∀ o, H q4 = some o → ∃ ps, o = .tbl ps := fun o e => by
      cases o with
      | tbl ps => exact ⟨ps, rfl⟩
      | _ => have := k3 q4 _ (Ne.symm np4) e (fun ps z => by cases z); rw [n4] at this; cases this
    refine q _ q1 q2 q3 q4 ((t3.new n4).ins (by rw [upd_ne np4]; exact a3)) (fun b o hb e n => ?_) ?_ ?_ ?_ ?_ ?_ (ne_of_none d3 n4) ⟨f1, f2, f3, f4⟩
    · rw [upd_ne hb, upd_ne (ne_of_none (k3 b o hb e n) n4)]; exact k3 b o hb e n
    · rw [upd_same, rg_fields]
    · rw [upd_ne (Ne.symm np1), upd_ne (ne_of_none c3 n4)]; exact c3
    · rw [upd_ne (Ne.symm np2), upd_ne (ne_of_none b3 n4)]; exact b3
    · rw [upd_ne (Ne.symm np3), upd_ne (ne_of_none d3 n4)]; exact d3
    · rw [upd_ne (Ne.symm np4)]; exact upd_same
end
end PL
set_option Elab.async false
set_option linter.all false
set_option maxRecDepth 100000
set_option maxHeartbeats 2000000
namespace PL
open PySem PySem.Spec PyProof.Rows L2
open LamX (ExtN Tabs TabS)
section
variable {T : Tb} {X : Cx} {W : WX} {pos p p2 p3 pos' pos2 apos cpos : Pos} {e a b c o : Expr} {es : List Expr} {st : Stmt} {K : PySem.W.Frag} {G : Gh} {ρ ρ2 : En} {σ σ2 : L2.St} {H H' : Hp} {C : Addr} {A A' : RA} {R R' : Reg} {i : Nat} {D : Ends}
/-- objects that are new are ours -/
theorem Rep.gain (r : Rep T K G ρ σ H) (no : ∀ s ∈ ρ, s.owned = false) (e : ∀ b o, H b = some o → (∀ ps, o ≠ .tbl ps) → H' b = some o) (t : TOk T H') (N : List Addr) (hN : ∀ c ∈ N, c ∉ G.O ∧ (∀ o, H c = some o → ∃ ps, o = .tbl ps) ∧ ∃ o, H' c = some o ∧ NT o) :
    Rep T K ⟨G.Hb, N ++ G.O, G.fl⟩ ρ σ H' ∧ ExtN (hide G.O H) (hide (N ++ G.O) H') := by
  have ex : ExtN (hide G.O H) (hide (N ++ G.O) H') := fun b o hb n => by
    obtain ⟨h1, h2⟩ := hide_some hb
    rw [hide_out fun z => ?_]
    · exact e b o h2 n
    · rcases List.mem_append.mp z with z | z
      · obtain ⟨ps, y⟩ := (hN b z).2.1 o h2
        exact n ps y
      · exact h1 z
  have kp : ∀ a ∈ G.O, H' a = H a := fun a ha => by
    obtain ⟨o, ho, n⟩ := r.dom a ha
    rw [ho]
    exact e a o ho n
  refine ⟨⟨r.len, fun j s hj => ?_, r.sep, t, r.ext.trans ex, fun a ha => ?_, fun q hq => ?_, fun a ha => ?_⟩, ex⟩
  · obtain ⟨v, g1, g2⟩ := r.slot j s hj
    refine ⟨v, g1, ?_⟩
    have := no s (List.mem_of_getElem? hj)
    cases s with
    | un => trivial
    | sh d => obtain ⟨x, h3, h4⟩ := g2; exact ⟨x, h3, h4.ext ex⟩
    | sn d => obtain ⟨x, h3, h4⟩ := g2; exact ⟨x, h3, h4.ext ex⟩
    | sk d => obtain ⟨x, h3, h4⟩ := g2; exact ⟨x, h3, h4.ext ex⟩
    | rr d => obtain ⟨x, h3, h4⟩ := g2; exact ⟨x, h3, h4.ext ex⟩
    | dice => exact g2
    | scr ns => obtain ⟨b, h3, h4⟩ := g2; exact ⟨b, h3, sqL_ext ex h4⟩
    | _ => cases this
  · rcases List.mem_append.mp ha with z | z
    · exact (hN a z).2.2
    · rw [kp a z]; exact r.dom a z
  · obtain ⟨g1, g2⟩ := r.fly q hq
    exact ⟨List.mem_append_right _ g1, (kp _ g1).trans g2⟩
  · obtain ⟨g1, g2, g3⟩ := r.dcs a ha
    exact ⟨List.mem_append_right _ g1, by rw [kp a g1]; exact g2, g3⟩
theorem RelX.trans {P : Hp → Prop} (h : RelX X σ H fun H2 => RelX X σ H2 P) : RelX X σ H P := fun pins s I => by
  obtain ⟨H2, I2, q⟩ := h pins s I
  exact q pins s I2
/-- book, rows, place = Register([..]), [()], 0 -/
def sInit (i ir ip : Nat) (ns : List Int) : SW := fun ρ D => (∀ s ∈ ρ, s.owned = false) ∧ (ir ≠ i ∧ ip ≠ i) ∧ ∀ A, D.nx (((ρ.set i (.rg A ⟨ns, [], [], []⟩)).set ir (.sh (.list [ptM []]))).set ip (.sh (.int 0)))
theorem ds_init {k : Nat} {f : Addr} {fd : FuncData} {ps : List Str} {x : Str} {i ir ip : Nat} {ts : List Expr} {tg : TGs} {j1 j2 j3 k1 k2 k3 : Nat} {n1 n2 : Int} {q1 q2 q3 q4 q5 q6 q7 q8 q9 q10 q11 : Pos} (RC : RgC X.K C) (hc : X.calm = true) (M : Mk X.K C f) (F : FnOk X.prog X.w X.K X.mg X.base (L2.CX X.prog X.w) k f fd ps (spRI2 T C [n1, n2])) (hr : Room (k + 1) X.A) (hg : Gl X x) (hm : X.mg x = some (.ref C)) (hb : Binds X.K fd ps []) (tk : Takes X W)
    (hgs : PGs X ts tg) (ht : TNames X ts [i, ir, ip] tg) (hn : (assignEach ts X.env).length = 3) (hst : (assignEach ts X.env).findIdx? (·.1) = none)
    (hs : swapsWithSole [.Tuple ts k1 q1] (.Tuple [.Call (.Name x q2) [.List [.Constant (.int n1) j1 q3, .Constant (.int n2) j2 q4] q5] [] q6, .List [.Tuple [] k2 q7] q8, .Constant (.int 0) j3 q9] k3 q10) q11.line X.env = pure false)
    (hw : swappedStores [.Tuple ts k1 q1] (.Tuple [.Call (.Name x q2) [.List [.Constant (.int n1) j1 q3, .Constant (.int n2) j2 q4] q5] [] q6, .List [.Tuple [] k2 q7] q8, .Constant (.int 0) j3 q9] k3 q10) X.env = pure none) (h1 : (assignEach [.Tuple ts k1 q1] X.env).map (·.2) = [assign (.Tuple ts k1 q1) X.env])
    (hdb : (x == ("__debug__" : Str)) = false := by decide) (e1 : starEach [.List [.Constant (.int n1) j1 q3, .Constant (.int n2) j2 q4] q5] X.env = (false, eval (.List [.Constant (.int n1) j1 q3, .Constant (.int n2) j2 q4] q5) X.env) :: starEach [] X.env := by rfl) :
    DS T X W (.Assign [.Tuple ts k1 q1] (.Tuple [.Call (.Name x q2) [.List [.Constant (.int n1) j1 q3, .Constant (.int n2) j2 q4] q5] [] q6, .List [.Tuple [] k2 q7] q8, .Constant (.int 0) j3 q9] k3 q10) q11) (sInit i ir ip [n1, n2]) :=
  ⟨ps_mono (ps_rel (ps_asg (pe_tup (pa_cons (pe_make (CX := L2.CX X.prog X.w) (E := fun _ _ _ => False) (dvs := []) M F hr hg hm hb .nil (fun pins σ H s e s' I z => passes_call (E := fun _ _ _ => False) tk (fun _ _ _ _ z => z.elim) pins σ H s e s' I z) (pa_cons (pe_lst (pa_cons pe_int (pa_cons pe_int pa_nil (by rfl)) (by rfl))) pa_nil e1) hdb e1 (by rfl)) (pa_cons (pe_lst (pa_cons pe_tupF pa_nil (by rfl))) (pa_cons pe_int pa_nil (by rfl)) (by rfl)) (by rfl))) (pg_tup hc hgs hn hst) hs hw h1)) fun D σ H q => by
    obtain ⟨G, ρ, r, fa, no, hne, q⟩ := q
    refine fun pins s I => ⟨H, I, by show 2 ≤ sizeLine; decide, fun l hl y dx hy hdx ne => ⟨y, dx, l, rfl, upd_same, ?_, ?_, fun H' r' t d u tk' kp g1 g2 g3 g4 g5 du ⟨m1, m2, m3, m4⟩ => ⟨rfl, ?_⟩⟩⟩
    · rw [upd_ne (fun z => by rw [← z, upd_same] at hy; cases hy), upd_ne (fun z => by rw [← z, upd_same] at hdx; cases hdx), upd_same]
      rfl
    · refine r.tab.keep fun b o e => ?_
      have e1 : upd H l (.lst [.int n1, .int n2]) b = some o := by rw [upd_ne (ne_of_none e hl)]; exact e
      rw [upd_ne (ne_of_none e1 hy), upd_ne (ne_of_none e1 hdx)]
      exact e1
    · have up : ∀ b o, H b = some o → upd (upd (upd H l (.lst [.int n1, .int n2])) dx (.own y)) y (.ins C dx []) b = some o := fun b o e => by
        have e1 : upd H l (.lst [.int n1, .int n2]) b = some o := by rw [upd_ne (ne_of_none e hl)]; exact e
        rw [upd_ne (ne_of_none e1 hy), upd_ne (ne_of_none e1 hdx)]
        exact e1
      have Hy : H y = none := by
        cases z : H y with
        | none => rfl
        | some o =>
          have e1 : upd H l (.lst [.int n1, .int n2]) y = some o := by rw [upd_ne (ne_of_none z hl)]; exact z
          rw [hy] at e1; cases e1
      have all : ∀ b o, H b = some o → (∀ ps, o ≠ .tbl ps) → H' b = some o := fun b o e n => kp b o (ne_of_none e Hy) (up b o e) n
      have nw : ∀ c, (∀ o, upd (upd (upd H l (.lst [.int n1, .int n2])) dx (.own y)) y (.ins C dx []) c = some o → ∃ ps, o = .tbl ps) → ∀ o, H c = some o → ∃ ps, o = .tbl ps := fun c h o e => h o (up c o e)
      have nO : ∀ c, (∀ o, H c = some o → ∃ ps, o = .tbl ps) → c ∉ G.O := fun c h z => by
        obtain ⟨o, ho, n⟩ := r.dom c z
        obtain ⟨ps, e⟩ := h o ho
        exact n.tb ps e
      have nt := nw t m2
      have nd := nw d m3
      have nu := nw u m4
      have ny : ∀ o, H y = some o → ∃ ps, o = .tbl ps := fun o e => by rw [Hy] at e; cases e
      have td : t ≠ d := fun z => by rw [z, g4] at g3; cases g3
      have tu : t ≠ u := fun z => by rw [z, g5] at g3; cases g3
      have yt : y ≠ t := fun z => by rw [z, g3] at g1; cases g1
      have yd : y ≠ d := fun z => by rw [z, g4] at g1; cases g1
      have yu : y ≠ u := fun z => by rw [z, g5] at g1; cases g1
      have rt : r' ≠ t := fun z => by rw [z, g3] at g2; cases g2
      have rd : r' ≠ d := fun z => by rw [z, g4] at g2; cases g2
      have ru : r' ≠ u := fun z => by rw [z, g5] at g2; cases g2
      have ry : r' ≠ y := fun z => by rw [z, g1] at g2; cases g2
      refine fun ob pp hob hpp => ⟨by show 1 ≤ sizeLine; decide, fun qq hqq => ⟨by show 3 ≤ sizeLine; decide, fun mm hmm => ⟨mm, [.ref y, .ref qq, .int 0], rfl, SqT.of upd_same, rfl, tnames_set ht rfl ?_⟩⟩⟩
      -- the heap behind
      have k0 : ∀ b o, H' b = some o → upd (upd (upd H' pp (.frz ob (.tup []))) qq (.lst [.ref pp])) mm (.tup [.ref y, .ref qq, .int 0]) b = some o := fun b o e => by
        have e1 : upd H' pp (.frz ob (.tup [])) b = some o := by rw [upd_ne (ne_of_none e hpp)]; exact e
        have e2 : upd (upd H' pp (.frz ob (.tup []))) qq (.lst [.ref pp]) b = some o := by rw [upd_ne (ne_of_none e1 hqq)]; exact e1
        rw [upd_ne (ne_of_none e2 hmm)]; exact e2
      have aq : upd (upd (upd H' pp (.frz ob (.tup []))) qq (.lst [.ref pp])) mm (.tup [.ref y, .ref qq, .int 0]) qq = some (.lst [.ref pp]) := by rw [upd_ne (ne_of_none (upd_same : upd (upd H' pp (.frz ob (.tup []))) qq (.lst [.ref pp]) qq = _) hmm)]; exact upd_same
      have app : upd (upd (upd H' pp (.frz ob (.tup []))) qq (.lst [.ref pp])) mm (.tup [.ref y, .ref qq, .int 0]) pp = some (.frz ob (.tup [])) := by
        have e1 : upd (upd H' pp (.frz ob (.tup []))) qq (.lst [.ref pp]) pp = some (.frz ob (.tup [])) := by rw [upd_ne (ne_of_none (upd_same : upd H' pp (.frz ob (.tup [])) pp = _) hqq)]; exact upd_same
        rw [upd_ne (ne_of_none e1 hmm)]; exact e1
      have nq : H' qq = none := by
        cases z : H' qq with
        | none => rfl
        | some o => have e1 : upd H' pp (.frz ob (.tup [])) qq = some o := by rw [upd_ne (ne_of_none z hpp)]; exact z
                    rw [hqq] at e1; cases e1
      have tok1 : TOk T (upd (upd (upd H' pp (.frz ob (.tup []))) qq (.lst [.ref pp])) mm (.tup [.ref y, .ref qq, .int 0])) := tk'.keep k0
      generalize upd (upd (upd H' pp (.frz ob (.tup []))) qq (.lst [.ref pp])) mm (.tup [.ref y, .ref qq, .int 0]) = Hf at k0 aq app tok1 ⊢
      have ft := k0 _ _ g3
      have fd' := k0 _ _ g4
      have fu := k0 _ _ g5
      refine RelX.trans (rel_RT (kvs := []) ft fun tss e1 _ => ?_)
      obtain rfl : tss = [] := by cases tss with
        | nil => rfl
        | cons _ _ => cases e1
      refine RelX.trans (rel_RL (vs := []) (ad := d) (by rw [upd_ne (Ne.symm td)]; exact fd') ?_)
      refine rel_RL (vs := []) (ad := u) (by rw [upd_ne (Ne.symm du), upd_ne (Ne.symm tu)]; exact fu) ?_
      have t2 : TOk T (upd Hf t (RT t [])) := tok1.updT ft
      have t3 : TOk T (upd (upd Hf t (RT t [])) d (RL d [])) := t2.upd (o := .lst []) (by rw [upd_ne (Ne.symm td)]; exact fd') (.inl ⟨_, rfl⟩)
      have t4 : TOk T (upd (upd (upd Hf t (RT t [])) d (RL d [])) u (RL u [])) := t3.upd (o := .lst []) (by rw [upd_ne (Ne.symm du), upd_ne (Ne.symm tu)]; exact fu) (.inl ⟨_, rfl⟩)
      have at_ : ∀ b, b ≠ t → b ≠ d → b ≠ u → upd (upd (upd Hf t (RT t [])) d (RL d [])) u (RL u []) b = Hf b := fun b b1 b2 b3 => by rw [upd_ne b3, upd_ne b2, upd_ne b1]
      have aT : upd (upd (upd Hf t (RT t [])) d (RL d [])) u (RL u []) t = some (RT t []) := by rw [upd_ne tu, upd_ne td, upd_same]
      have aD : upd (upd (upd Hf t (RT t [])) d (RL d [])) u (RL u []) d = some (RL d []) := by rw [upd_ne du, upd_same]
      have aU : upd (upd (upd Hf t (RT t [])) d (RL d [])) u (RL u []) u = some (RL u []) := upd_same
      have aY := (at_ y yt yd yu).trans (k0 _ _ g1)
      have aR := (at_ r' rt rd ru).trans (k0 _ _ g2)
      have qt : qq ≠ t := fun z => by rw [z, g3] at nq; cases nq
      have qd : qq ≠ d := fun z => by rw [z, g4] at nq; cases nq
      have qu : qq ≠ u := fun z => by rw [z, g5] at nq; cases nq
      have qy : qq ≠ y := fun z => by rw [z, g1] at nq; cases nq
      have pt : pp ≠ t := fun z => by rw [z, g3] at hpp; cases hpp
      have pd : pp ≠ d := fun z => by rw [z, g4] at hpp; cases hpp
      have pu : pp ≠ u := fun z => by rw [z, g5] at hpp; cases hpp
      have py : pp ≠ y := fun z => by rw [z, g1] at hpp; cases hpp
      have aQ := (at_ qq qt qd qu).trans aq
      have aP := (at_ pp pt pd pu).trans app
      generalize upd (upd (upd Hf t (RT t [])) d (RL d [])) u (RL u []) = H5 at t4 at_ aT aD aU aY aR aQ aP ⊢
      have e5 : ∀ b o, H b = some o → (∀ ps, o ≠ .tbl ps) → H5 b = some o := fun b o e n => by
        have ne : ∀ c, (∀ o, H c = some o → ∃ ps, o = .tbl ps) → b ≠ c := fun c h z => by
          subst z
          obtain ⟨ps, y⟩ := h o e
          exact n ps y
        rw [at_ b (ne t nt) (ne d nd) (ne u nu)]
        exact k0 _ _ (all b o e n)
      obtain ⟨r5, x5⟩ := r.gain no e5 t4 [y, t, d, u] fun c hc => by
        simp only [List.mem_cons, List.not_mem_nil, or_false] at hc
        rcases hc with rfl | rfl | rfl | rfl
        · exact ⟨nO _ ny, ny, _, aY, nt_of rfl⟩
        · exact ⟨nO _ nt, nt, _, aT, nt_of rfl⟩
        · exact ⟨nO _ nd, nd, _, aD, nt_of rfl⟩
        · exact ⟨nO _ nu, nu, _, aU, nt_of rfl⟩
      have out : ∀ b o, H' b = none ∨ b = r' → b ≠ y → b ≠ t → b ≠ d → b ≠ u → H5 b = some o → hide ([y, t, d, u] ++ G.O) H5 b = some o := fun b o hb b1 b2 b3 b4 e => by
        rw [hide_out fun z => ?_]
        · exact e
        · rcases List.mem_append.mp z with z | z
          · simp only [List.mem_cons, List.not_mem_nil, or_false] at z
            rcases z with z | z | z | z
            · exact b1 z
            · exact b2 z
            · exact b3 z
            · exact b4 z
          · obtain ⟨o2, ho, n⟩ := r.dom b z
            rcases hb with hb | hb
            · have := all b o2 ho n
              rw [hb] at this
              cases this
            · subst hb
              exact nO _ (nw _ m1) z
      have hR : RgAt X.K (hide ([y, t, d, u] ++ G.O) H5) H5 ⟨y, t, d, u⟩ ⟨[n1, n2], [], [], []⟩ :=
        ⟨⟨C, dx, r', RC.ns, aY, out r' _ (.inr rfl) ry rt rd ru aR⟩, ⟨[], aT, rfl, fun p hp => (by cases hp), .nil⟩, ⟨[], aD, .nil⟩, ⟨[], aU, .nil⟩⟩
      have ownA : RgOwn T.dc ([y, t, d, u] ++ G.O) ⟨y, t, d, u⟩ := fun c hc => by
        have mem : c ∈ [y, t, d, u] := by
          rcases hc with z | z | z | z <;> rw [z] <;> simp
        have nc : c ∉ G.O := by
          rcases hc with z | z | z | z <;> rw [z]
          · exact nO _ ny
          · exact nO _ nt
          · exact nO _ nd
          · exact nO _ nu
        exact ⟨List.mem_append_left _ mem, fun z => nc (r.dcs c z).1⟩
      have nc : ∀ c, RA.has ⟨y, t, d, u⟩ c → c ∉ G.O := fun c hc => by
        rcases hc with z | z | z | z <;> rw [z]
        · exact nO _ ny
        · exact nO _ nt
        · exact nO _ nd
        · exact nO _ nu
      have rA := r5.setSl (i := i) (v := .ref y) (s := .rg ⟨y, t, d, u⟩ ⟨[n1, n2], [], [], []⟩) ⟨rfl, ownA, ⟨du, td, tu⟩, hR⟩ fun _ b eb j s _ hj hs => by rw [no s (List.mem_of_getElem? hj)] at hs; cases hs
      have fA : FlApt G.fl (ρ.set i (.rg ⟨y, t, d, u⟩ ⟨[n1, n2], [], [], []⟩)) (σ.set i (some (.ref y))) := fa.setSl (fun _ q hq z => by
        cases z
        exact nc q.1 (.inl rfl) (r.fly q hq).1) fun q hq z => nc q.1 z (r.fly q hq).1
      have dq : Da X.K (hide ([y, t, d, u] ++ G.O) H5) (.ref qq) (.list [ptM []]) := .lst (out qq _ (.inl nq) qy qt qd qu aQ) (.cons (.pt (out pp _ (.inl hpp) py pt pd pu aP) hob (.inl rfl) .nil) .nil)
      exact q _ _ _ _ ((rA.setSh (i := ir) (v := .ref qq) dq).setSh (i := ip) (v := .int 0) (d := .int 0) (.int 0)) (fA.setSh.setSh),
   fun ρ D D' l ⟨h1, h2, h3⟩ => ⟨h1, h2, fun A => l.nx _ (h3 A)⟩⟩
end
end PL
set_option Elab.async false
set_option linter.all false
set_option maxRecDepth 100000
set_option maxHeartbeats 2000000
namespace PL
open PySem PySem.Spec PyProof.Rows L2 LamX
/-- either promise -/
theorem fnOk_or {P : Program} {w : World} {K : PySem.W.Frag} {mg : Str → Option Value} {base : Heap} {CX : CXT} {k1 k2 : Nat} {f : Addr} {fd : FuncData} {ps : List Str} {s1 s2 : Sp} (F1 : FnOk P w K mg base CX k1 f fd ps s1) (F2 : FnOk P w K mg base CX k2 f fd ps s2) :
    FnOk P w K mg base CX (max k1 k2) f fd ps (fun vs H Q E => s1 vs H Q E ∨ s2 vs H Q E) :=
  ⟨fun vs H Q E h => h.elim (F1.len vs H Q E) (F2.len vs H Q E), fun A outer s H args us vs Q E hr he hb hv hs => hs.elim (fun q => F1.run A outer s H args us vs Q E (hr.mono (Nat.le_max_left _ _)) he hb hv q) (fun q => F2.run A outer s H args us vs Q E (hr.mono (Nat.le_max_right _ _)) he hb hv q)⟩
/-- a lambda's parts -/
def lamZ : Expr → LamD
  | .Lambda ps b sc _ => ⟨ps, b, sc⟩
  | _ => ⟨⟨[], [], none, [], [], none, []⟩, .Constant .none 0 ⟨0, 0, 0, 0⟩, default⟩
/-- the lambda that is returned -/
def retL : Stmt → Expr
  | .Return (some (.Tuple (_ :: _ :: l :: _) _ _)) _ => l
  | _ => .Constant .none 0 ⟨0, 0, 0, 0⟩
def retB : Stmt → Expr
  | .If _ b _ _ => retL (b.getD (b.length - 1) (.Pass ⟨0, 0, 0, 0⟩))
  | st => retL st
def capsB (N : List Str) (sc : Scope) (caps : List Nat) (ls : List LamD) : Bool := ls.all fun l => l.scope.names.all fun y => !(y.2 == .free) || caps.any fun i => N[i]? == some y.1 && sc.names.lookup y.1 == some .cell
theorem caps_by {N : List Str} {sc : Scope} {caps : List Nat} {ls : List LamD} (h : capsB N sc caps ls = true) : ∀ l ∈ ls, ∀ y, (y, NameKind.free) ∈ l.scope.names → ∃ i ∈ caps, N[i]? = some y ∧ sc.names.lookup y = some .cell := by
  unfold capsB at h
  simp only [Bool.and_eq_true, List.all_eq_true, Bool.or_eq_true, Bool.not_eq_true', List.any_eq_true, beq_iff_eq, beq_eq_false_iff_ne, ne_eq] at h
  intro l hl y hy
  rcases h l hl _ hy with z | ⟨i, hi, h1, h2⟩
  · exact absurd rfl z
  · exact ⟨i, hi, h1, h2⟩
end PL
set_option Elab.async false
set_option linter.all false
set_option maxRecDepth 100000
set_option maxHeartbeats 2000000
namespace PL
open PySem PySem.Spec PyProof.Rows L2
section
variable {T : Tb} {X : Cx} {W : WX} {apos cpos : Pos} {a b : Expr} {K : PySem.W.Frag} {G : Gh} {ρ : En} {σ : L2.St} {H H' : Hp}
def rCntD (K : PySem.W.Frag) : V → List V → Hp → VK → Prop := fun x xs H Q => ∃ (y : V) (ds : List PyData) (d : PyData), xs = [y] ∧ Da K H x (.list ds) ∧ Da K H y d ∧ Pl (.list ds) ∧ Pl d ∧ Q (.int (ds.countP fun z => PyData.eqv z d : Nat)) H
theorem mt_lcountD {k : Nat} (hr : Room k X.A) : MtR X "list.count" (rCntD X.K) := by
  intro pins s σ H x xs v us Q I rx rxs h
  obtain ⟨y, ds, d, rfl, h1, h2, p1, p2, q⟩ := h
  obtain ⟨u, rfl, ru⟩ := rxs.one
  obtain ⟨as, r1⟩ := Dp.reads I _ _ v (h1.dp p1.1) rx
  obtain ⟨bs, r2⟩ := Dp.reads I _ _ u (h2.dp p2.1) ru
  have hu := hr.un
  cases r1 with
  | list g1 g2 g3 g4 =>
    refine PySem.SeqAt.count_list_data ⟨_, g1, g2, _, g3⟩ g4 r2 (by simpa [PyData.plain] using p1.1) p2.1 ?_ ⟨.int (ds.countP fun z => PyData.eqv z d : Nat), H, I.tok _, ⟨s.toks, rfl⟩, q⟩
    have : d.depth ≤ 30 := p2.2
    omega
def wCntD (w wk : PW) : PW := fun ρ Q E => w ρ (fun x => match x with
  | .list ds => wk ρ (fun k => (Pl (.list ds) ∧ Pl k) ∧ Q (.int (ds.countP fun z => PyData.eqv z k : Nat))) E
  | _ => False) E
theorem de_countD {k : Nat} {w wk : PW} (hr : Room k X.A) (ho : DE T X W a w) (hk : DE T X W b wk)
    (hbase : attributeBase a "count" X.env (eval a X.env) = eval a X.env := by rfl)
    (hfew : ((backTo cpos (starEach [b] X.env)).all (fun x => !x.1) && (backToKw cpos (keywordEach [] X.env)).all (fun x => x.1.isSome)
      && decide (([b]).length + ([] : List Keyword).length + (if ([] : List Keyword).isEmpty then 0 else 1) < 30)) = true := by rfl)
    (hline : (apos.endLine == cpos.line) = true := by rfl) (hs : starEach [b] X.env = (false, eval b X.env) :: starEach [] X.env := by rfl) : DE T X W (.Call (.Attribute a "count" apos) [b] [] cpos) (wCntD w wk) :=
  ⟨pe_mono (pe_bm PySem.F.plainAttrs_list PySem.F.slot_list_count PySem.F.type_list_count (mt_lcountD hr) ho.pe (pa_cons hk.pe pa_nil hs) hbase hfew hline hs (by rfl)) fun σ H Q q => by
    obtain ⟨G, ρ, r, q⟩ := q
    refine lift_intro ho.mono r (ho.mono _ _ _ _ _ (fun d hd v H1 r1 e1 a1 => ?_) (fun _ z => z) q)
    cases d with
    | list ds =>
      have a1' := a1
      cases a1' with
      | lst g1 g2 =>
      refine ⟨.inl ⟨rfl, _, SqL.of (hide_some g1).2⟩, lift_intro hk.mono r1 (hk.mono _ _ _ _ _ (fun k hk' y H2 r2 e2 a2 => ?_) (fun _ z => z) hd)⟩
      exact ⟨y, ds, k, rfl, (a1.ext e2).whole, a2.whole, hk'.1.1, hk'.1.2, hk'.2 _ H2 r2 (.int _)⟩
    | _ => exact hd.elim, fun ρ Q Q' E E' hq he h => ho.mono _ _ _ _ _ (fun d hd => by
      cases d with
      | list ds => exact hk.mono _ _ _ _ _ (fun k hk' => ⟨hk'.1, hq _ hk'.2⟩) he hd
      | _ => exact hd) he h⟩
end
end PL
set_option Elab.async false
set_option linter.all false
set_option maxRecDepth 100000
set_option maxHeartbeats 2000000
set_option Elab.async false
set_option linter.all false
set_option maxRecDepth 100000
set_option maxHeartbeats 2000000
set_option Elab.async false
set_option linter.all false
set_option maxRecDepth 100000
set_option maxHeartbeats 2000000
namespace PL
open PySem PySem.Spec PyProof.Rows L2
open LamX (ExtN Tabs TabS)
end PL
set_option Elab.async false
set_option linter.all false
set_option maxRecDepth 100000
set_option maxHeartbeats 2000000
namespace GxI
open PySem PySem.Spec PyProof.Rows L2
/-- the inner loop's state -/
def ISt (X1 : Cx) (S : List Addr) (a : Addr) (go : Obj) (fp fp1 : List Addr) (tO : Heap → Prop) (tn1 : Nat → Heap → Prop) (Gd1 : Nat → Hp → Prop) (σ : L2.St) (j : Nat) (s : Shared) : Prop :=
  ∃ H pl, pl.map (·.1) = S ∧ Inv X1 ((a, go) :: pl) σ H s ∧ tn1 j s.heap ∧ (∀ b ∈ fp1, H b = none) ∧ tO s.heap ∧ (∀ b ∈ fp, H b = none) ∧ Gd1 j H
end GxI
set_option Elab.async false
set_option linter.all false
set_option maxRecDepth 100000
set_option maxHeartbeats 2000000
namespace GxI
open PySem PySem.Spec PyProof.Rows L2
theorem ISt.kp {X1 : Cx} {S : List Addr} {a : Addr} {go : Obj} {fp fp1 : List Addr} {tO : Heap → Prop} {tn1 : Nat → Heap → Prop} {Gd1 : Nat → Hp → Prop} {σ : L2.St} {j : Nat} {s s' : Shared} (hpn : X1.pn = []) (ap : SApart X1 S a fp) (ap1 : ∀ b ∈ S, b ∉ fp1)
    (kO : ∀ h h', tO h → (∀ b ∈ fp, ∀ o, h.get? b = some o → h'.get? b = some o) → tO h') (k1 : ∀ i h h', tn1 i h → (∀ b ∈ fp1, ∀ o, h.get? b = some o → h'.get? b = some o) → tn1 i h') (h : ISt X1 S a go fp fp1 tO tn1 Gd1 σ j s) (k : Kp S s s') : ISt X1 S a go fp fp1 tO tn1 Gd1 σ j s' := by
  obtain ⟨H, pl, e, I, st1, n1, stO, nO, gd⟩ := h
  obtain ⟨pl', e', I'⟩ := inv_kp hpn ap e I k
  exact ⟨H, pl', e', I', k1 _ _ _ st1 fun b hb o q => k.keep b o (fun hs => ap1 b hs hb) q, n1, kO _ _ stO fun b hb o q => k.keep b o (fun hs => ap.fp b hs hb) q, nO, gd⟩
end GxI
set_option Elab.async false
set_option linter.all false
set_option maxRecDepth 100000
set_option maxHeartbeats 2000000
set_option Elab.async false
set_option linter.all false
set_option maxRecDepth 100000
set_option maxHeartbeats 2000000
set_option Elab.async false
set_option linter.all false
set_option maxRecDepth 100000
set_option maxHeartbeats 2000000
set_option Elab.async false
set_option linter.all false
set_option maxRecDepth 100000
set_option maxHeartbeats 2000000
namespace PL
open PySem PySem.Spec PyProof.Rows L2
open LamX (ExtN Tabs TabS)
end PL
set_option Elab.async false
set_option linter.all false
set_option maxRecDepth 100000
set_option maxHeartbeats 2000000
namespace EnB
open PySem PySem.Spec PyProof.Rows L2
end EnB
namespace PL
open PySem PySem.Spec PyProof.Rows L2 EnB
open LamX (ExtN Tabs TabS)
end PL
set_option Elab.async false
set_option linter.all false
set_option maxRecDepth 100000
set_option maxHeartbeats 1000000
namespace U
open PySem PySem.Spec PyProof.Rows L2 PL
open PySem.W (Datum DatumOrd Tup)
theorem le_size {n : Nat} (h : n ≤ 100000) : n ≤ sizeLine := by rw [sizeLine_eq]; omega
theorem lt_size {n : Nat} (h : n ≤ 100000) : n < sizeLine := by rw [sizeLine_eq]; omega
theorem pl_int (i : Int) : Pl (.int i) := ⟨rfl, Nat.zero_le _⟩
theorem pl_str (x : Str) : Pl (.str x) := ⟨rfl, Nat.zero_le _⟩
theorem eqv_int (i j : Int) : PyData.eqv (.int i) (.int j) = decide (i = j) := Datum.eqv i j
theorem eqv_str (i j : Str) : PyData.eqv (.str i) (.str j) = decide (i = j) := Datum.eqv i j
theorem br {b : Bool} {A B : Prop} (h1 : b = true → A) (h2 : b = false → B) : if b = true then A else B := by
  cases b
  · rw [if_neg (by decide)]; exact h2 rfl
  · rw [if_pos rfl]; exact h1 rfl
theorem no {b : Bool} {A B : Prop} (e : b = false) (h : B) : if b = true then A else B := by rw [e, if_neg (by decide)]; exact h
theorem brEq {α : Type} [DecidableEq α] [Datum α] (x y : α) {A B : Prop} (h1 : x = y → A) (h2 : x ≠ y → B) : if (if false = true then !PyData.eqv (Datum.toD x) (Datum.toD y) else PyData.eqv (Datum.toD x) (Datum.toD y)) = true then A else B :=
  br (fun e => h1 (of_decide_eq_true ((Datum.eqv x y).symm.trans e))) (fun e => h2 (of_decide_eq_false ((Datum.eqv x y).symm.trans e)))
theorem goFor_by {g : GD} {b : SW} {D : PEn} {ds : List PyData} (Inv : Nat → En → Prop)
    (hs : ∀ i d ρ (N : En → Prop), (∀ ρ', Inv (i + 1) ρ' → N ρ') → ds[i]? = some d → Inv i ρ → g d ρ fun ρ2 => b ρ2 { D with nx := N, ct := N, bk := D.nx }) (hd : ∀ ρ, Inv ds.length ρ → D.nx ρ) : ∀ ρ, Inv 0 ρ → goFor g b D ds ρ := by
  have key : ∀ (k i : Nat) (ρ : En), i + k = ds.length → Inv i ρ → goFor g b D (ds.drop i) ρ := by
    intro k
    induction k with
    | zero =>
      intro i ρ e h
      rw [List.drop_eq_nil_of_le (by omega)]
      have : i = ds.length := by omega
      subst this
      exact hd ρ h
    | succ k ih =>
      intro i ρ e h
      rw [List.drop_eq_getElem_cons (by omega : i < ds.length)]
      exact hs i _ ρ _ (fun ρ' h' => ih (i + 1) ρ' (by omega) h') (List.getElem?_eq_getElem (by omega)) h
  intro ρ h
  have := key ds.length 0 ρ (by omega) h
  rwa [List.drop_zero] at this
/-- over items that are known -/
theorem for_list {α : Type} {enc : α → PyData} {g : GD} {b : SW} {D : PEn} (xs : List α) (Inv : Nat → En → Prop)
    (hs : ∀ i x ρ (N : En → Prop), (∀ ρ', Inv (i + 1) ρ' → N ρ') → xs[i]? = some x → i < xs.length → Inv i ρ → g (enc x) ρ fun ρ2 => b ρ2 { D with nx := N, ct := N, bk := D.nx }) (hd : ∀ ρ, Inv xs.length ρ → D.nx ρ) (ρ : En) (h : Inv 0 ρ) : goFor g b D (xs.map enc) ρ := by
  refine goFor_by Inv (fun i d ρ N hN hd hI => ?_) (fun ρ hI => hd ρ (by rwa [List.length_map] at hI)) ρ h
  rw [List.getElem?_map] at hd
  cases e : xs[i]? with
  | none => rw [e] at hd; cases hd
  | some x =>
    rw [e] at hd
    cases hd
    exact hs i x ρ N hN e (List.getElem?_eq_some_iff.mp e).1 hI
theorem for_range {g : GD} {b : SW} {D : PEn} (lo : Int) (n : Nat) (Inv : Nat → En → Prop)
    (hs : ∀ i ρ (N : En → Prop), (∀ ρ', Inv (i + 1) ρ' → N ρ') → i < n → Inv i ρ → g (.int (lo + (i : Nat))) ρ fun ρ2 => b ρ2 { D with nx := N, ct := N, bk := D.nx }) (hd : ∀ ρ, Inv n ρ → D.nx ρ) (ρ : En) (h : Inv 0 ρ) : goFor g b D (rangeD lo n) ρ := by
  unfold rangeD
  refine for_list (List.range n) Inv (fun i x ρ N hN hx hi hI => ?_) (fun ρ hI => hd ρ (by rwa [List.length_range] at hI)) ρ h
  rw [List.length_range] at hi
  rw [List.getElem?_range hi] at hx
  cases hx
  exact hs i ρ N hN hi hI
theorem lc_go {α β : Type} {enc : β → PyData} {enco : α → PyData} {g : GD} {wt : PWB} {we : PW} {ρ : En} {Q : List PyData → Prop} (f : β → Option α) : ∀ (xs : List β) (acc : List α),
    (∀ x ∈ xs, ∀ (Y : PyData → Prop) (N : Prop), (∀ y, f x = some y → Y (enco y)) → (f x = none → N) → g (enc x) ρ fun ρ2 => wt ρ2 (fun k => if k = true then we ρ2 Y (fun _ => False) else N) (fun _ => False)) →
    acc.length + xs.length ≤ 100000 → Q ((acc ++ xs.filterMap f).map enco) → goLc g wt we ρ (xs.map enc) (acc.map enco) Q
  | [], acc, h, hl, hQ => by
    rw [List.filterMap_nil, List.append_nil] at hQ
    exact hQ
  | x :: xs, acc, h, hl, hQ => by
    rw [List.length_cons] at hl
    refine h x List.mem_cons_self (fun y => _ ∧ _) _ (fun y hy => ?_) (fun hn => ?_)
    · refine ⟨lt_size (by rw [List.length_map]; omega), ?_⟩
      have := lc_go (enc := enc) (enco := enco) (g := g) (wt := wt) (we := we) (ρ := ρ) (Q := Q) f xs (acc ++ [y]) (fun z hz => h z (List.mem_cons_of_mem _ hz)) (by rw [List.length_append, List.length_singleton]; omega) (by
        rw [List.filterMap_cons_some hy] at hQ
        rwa [List.append_assoc])
      rwa [List.map_append] at this
    · exact lc_go f xs acc (fun z hz => h z (List.mem_cons_of_mem _ hz)) (by omega) (by rwa [List.filterMap_cons_none hn] at hQ)
/-- [e for x in xs if t] -/
theorem lc_all {α β : Type} {enc : β → PyData} {enco : α → PyData} {g : GD} {wt : PWB} {we : PW} {ρ : En} {Q : List PyData → Prop} (xs : List β) (f : β → Option α)
    (h : ∀ x ∈ xs, ∀ (Y : PyData → Prop) (N : Prop), (∀ y, f x = some y → Y (enco y)) → (f x = none → N) → g (enc x) ρ fun ρ2 => wt ρ2 (fun k => if k = true then we ρ2 Y (fun _ => False) else N) (fun _ => False))
    (hl : xs.length ≤ 100000) (hQ : Q ((xs.filterMap f).map enco)) : goLc g wt we ρ (xs.map enc) [] Q :=
  lc_go f xs [] h (by simpa using hl) hQ
/-- [e for x in xs] -/
theorem lc_map {α β : Type} {enc : β → PyData} {enco : α → PyData} {g : GD} {we : PW} {ρ : En} {Q : List PyData → Prop} (xs : List β) (f : β → α)
    (h : ∀ x ∈ xs, ∀ (Y : PyData → Prop), Y (enco (f x)) → g (enc x) ρ fun ρ2 => we ρ2 Y (fun _ => False))
    (hl : xs.length ≤ 100000) (hQ : Q ((xs.map f).map enco)) : goLc g wYes we ρ (xs.map enc) [] Q :=
  lc_all xs (fun x => some (f x)) (fun x hx Y N hY hN => by
    have := h x hx Y (hY _ rfl)
    exact this) hl (by rwa [show xs.filterMap (fun x => some (f x)) = xs.map f from List.filterMap_eq_map ▸ rfl])
/-- any, all, sum of e for x in xs if t -/
theorem gen_all {α β : Type} {toD : α → PyData} {enc : β → PyData} {g : GD} {wt : PWB} {we : PW} {ρ : En} {P : List (Option α) → Prop} (xs : List β) (f : β → Option α)
    (h : ∀ x ∈ xs, g (enc x) ρ fun ρ2 => wt ρ2 (fun k => match f x with | some y => k = true ∧ we ρ2 (fun z => z = toD y) (fun _ => False) | none => k = false) (fun _ => False)) (hQ : ∀ bs, bs.filterMap id = xs.filterMap f → P bs) :
    ∃ bs : List (Option α), All2 (fun d ob => g d ρ fun ρ2 => wt ρ2 (fun k => match ob with | some y => k = true ∧ we ρ2 (fun z => z = toD y) (fun _ => False) | none => k = false) (fun _ => False)) (xs.map enc) bs ∧ P bs :=
  ⟨xs.map f, All2.map h, hQ _ (by rw [List.filterMap_map]; rfl)⟩
theorem gen_map {α β : Type} {toD : α → PyData} {enc : β → PyData} {g : GD} {we : PW} {ρ : En} {P : List (Option α) → Prop} (xs : List β) (f : β → α)
    (h : ∀ x ∈ xs, g (enc x) ρ fun ρ2 => true = true ∧ we ρ2 (fun z => z = toD (f x)) (fun _ => False)) (hQ : ∀ bs, bs.filterMap id = xs.map f → P bs) :
    ∃ bs : List (Option α), All2 (fun d ob => g d ρ fun ρ2 => wYes ρ2 (fun k => match ob with | some y => k = true ∧ we ρ2 (fun z => z = toD y) (fun _ => False) | none => k = false) (fun _ => False)) (xs.map enc) bs ∧ P bs :=
  gen_all (wt := wYes) xs (fun x => some (f x)) (fun x hx => h x hx) (fun bs e => hQ bs (e.trans (List.filterMap_eq_map ▸ rfl)))
theorem cut_hi {α : Type} (f : α → PyData) (ws : List α) {k : Nat} (h : k ≤ ws.length) : PL.cutD (ws.map f) none (some (k : Int)) = (ws.take k).map f := by
  unfold PL.cutD
  rw [HT.sIx_none, HT.sIx_nat, List.length_map, Nat.min_eq_left h, List.drop_zero, Nat.sub_zero, List.map_take]
theorem cut_lo {α : Type} (f : α → PyData) (ws : List α) {k : Nat} (h : k ≤ ws.length) : PL.cutD (ws.map f) (some (k : Int)) none = (ws.drop k).map f := by
  unfold PL.cutD
  rw [HT.sIx_none, HT.sIx_nat, List.length_map, Nat.min_eq_left h, ← List.map_drop, List.take_of_length_le (by rw [List.length_map, List.length_drop]; omega)]
theorem at_nat {α : Type} (xs : List α) {i : Nat} : atI xs (i : Int) = xs[i]? := by
  unfold atI ixN
  by_cases h : i < xs.length
  · rw [if_pos (by omega), if_pos (by omega)]
    simp
  · rw [if_pos (by omega), if_neg (by omega), List.getElem?_eq_none (by omega)]
    rfl
end U
set_option Elab.async false
set_option linter.all false
set_option maxRecDepth 100000
set_option maxHeartbeats 1000000
namespace U
open PySem PySem.Spec PyProof.Rows L2 PL
open PySem.W (Datum DatumOrd Tup)
theorem noown {vs : List Nat} {ρ : En} (h : (vs.all fun i => match ρ[i]? with | some s => !s.owned | none => true) = true) : NoOwn vs ρ := fun i hi s hs => by
  have := List.all_eq_true.mp h i hi
  rw [hs] at this
  simpa using this
def IsMx (l : List Int) (v : Int) : Prop := v ∈ l ∧ ∀ u ∈ l, u ≤ v
theorem IsMx.uniq {l : List Int} {v u : Int} (a : IsMx l v) (b : IsMx l u) : v = u := by
  have := a.2 _ b.1
  have := b.2 _ a.1
  omega
end U
set_option Elab.async false
set_option linter.all false
set_option maxRecDepth 100000
set_option maxHeartbeats 4000000
namespace M17
open PySem PySem.Spec PyProof.Rows L2 PL
open LamX (lamS_by)
def top (i : Nat) : Stmt := PySem.Challenge.pw_museum_k17_a_register_and_its_deeds.main.body.getD i (.Pass ⟨0, 0, 0, 0⟩)
abbrev s_is_thing : Stmt := top 4
abbrev s__law_dice : Stmt := top 8
abbrev s__law_roll : Stmt := top 9
abbrev s__law_rounds : Stmt := top 10
abbrev s__law_told : Stmt := top 11
abbrev s__law_deed : Stmt := top 12
abbrev s_law : Stmt := top 13
theorem bt_abs : bootBuiltins "abs" = some (.builtin "abs") := by decide +kernel
theorem bt_bool : bootBuiltins "bool" = some (.type "bool") := by decide +kernel
theorem bt_int : bootBuiltins "int" = some (.type "int") := by decide +kernel
theorem bt_len : bootBuiltins "len" = some (.builtin "len") := by decide +kernel
theorem bt_list : bootBuiltins "list" = some (.type "list") := by decide +kernel
theorem bt_min : bootBuiltins "min" = some (.builtin "min") := by decide +kernel
theorem bt_tuple : bootBuiltins "tuple" = some (.type "tuple") := by decide +kernel
abbrev s_ri : Stmt := inClass (top 6) 0
abbrev s_st : Stmt := inClass (top 6) 1
abbrev s_no : Stmt := inClass (top 6) 2
abbrev s_go : Stmt := inClass (top 6) 9
abbrev s_ti : Stmt := inClass (top 6) 3
abbrev s_pb : Stmt := inClass (top 6) 4
abbrev s_si : Stmt := inClass (top 6) 10
abbrev s_lt : Stmt := inClass (top 6) 11
abbrev s_of : Stmt := inClass (top 6) 12
abbrev s_sh : Stmt := inClass (top 6) 5
abbrev s_le : Stmt := inClass (top 6) 6
abbrev s_lg : Stmt := inClass (top 6) 7
abbrev s_rn : Stmt := inClass (top 6) 8
abbrev s_un : Stmt := inClass (top 6) 13
abbrev s_re : Stmt := inClass (top 6) 14
structure Ad where
  f_is_thing : Addr
  c_is_thing : Addr
  d_is_thing : FuncData
  p_is_thing : Addr
  f__law_dice : Addr
  c__law_dice : Addr
  d__law_dice : FuncData
  f__law_roll : Addr
  c__law_roll : Addr
  d__law_roll : FuncData
  f__law_rounds : Addr
  c__law_rounds : Addr
  d__law_rounds : FuncData
  f__law_told : Addr
  c__law_told : Addr
  d__law_told : FuncData
  f__law_deed : Addr
  c__law_deed : Addr
  d__law_deed : FuncData
  p__law_deed : Addr
  f_law : Addr
  c_law : Addr
  d_law : FuncData
  p_law : Addr
  x_BadDeed : Addr
  C_R : Addr
  p_ri : Addr
  f_ri : Addr
  c_ri : Addr
  d_ri : FuncData
  f_st : Addr
  c_st : Addr
  d_st : FuncData
  f_no : Addr
  c_no : Addr
  d_no : FuncData
  f_go : Addr
  c_go : Addr
  d_go : FuncData
  f_ti : Addr
  c_ti : Addr
  d_ti : FuncData
  f_pb : Addr
  c_pb : Addr
  d_pb : FuncData
  f_si : Addr
  c_si : Addr
  d_si : FuncData
  f_lt : Addr
  c_lt : Addr
  d_lt : FuncData
  f_of : Addr
  c_of : Addr
  d_of : FuncData
  f_sh : Addr
  c_sh : Addr
  d_sh : FuncData
  f_le : Addr
  c_le : Addr
  d_le : FuncData
  f_lg : Addr
  c_lg : Addr
  d_lg : FuncData
  f_rn : Addr
  c_rn : Addr
  d_rn : FuncData
  f_un : Addr
  c_un : Addr
  d_un : FuncData
  f_re : Addr
  c_re : Addr
  d_re : FuncData
structure ExM (K : PySem.W.Frag) (mg : Str → Option Value) (x : Str) (C : Addr) : Prop where
  g : mg x = some (.ref C)
  kp : PySem.W.keepIn K (.ref C) = true
  sub : PySem.W.subIn K (.ref C) (.type "BaseException") = some true
  ty : PySem.W.typeIn K (.ref C) = some (.type "type")
structure Tx (a : Ad) (K : PySem.W.Frag) (mg : Str → Option Value) (base : Heap) (T : Tb) : Prop where
  m_abs : mg "abs" = none
  m_all : mg "all" = none
  m_any : mg "any" = none
  m_bool : mg "bool" = none
  m_dict : mg "dict" = none
  m_int : mg "int" = none
  m_isinstance : mg "isinstance" = none
  m_len : mg "len" = none
  m_list : mg "list" = none
  m_min : mg "min" = none
  m_range : mg "range" = none
  m_sorted : mg "sorted" = none
  m_tuple : mg "tuple" = none
  f_is_thing : FunC K "is_thing" s_is_thing a.f_is_thing a.c_is_thing a.d_is_thing
  g_is_thing : mg "is_thing" = some (.ref a.f_is_thing)
  t_is_thing : GxR.TabB base mg a.c_is_thing a.p_is_thing
  tm_is_thing : a.p_is_thing ∈ T.tg
  tn_is_thing : a.p_is_thing ∉ T.ap
  f__law_dice : FunC K "_law_dice" s__law_dice a.f__law_dice a.c__law_dice a.d__law_dice
  g__law_dice : mg "_law_dice" = some (.ref a.f__law_dice)
  f__law_roll : FunC K "_law_roll" s__law_roll a.f__law_roll a.c__law_roll a.d__law_roll
  g__law_roll : mg "_law_roll" = some (.ref a.f__law_roll)
  f__law_rounds : FunC K "_law_rounds" s__law_rounds a.f__law_rounds a.c__law_rounds a.d__law_rounds
  g__law_rounds : mg "_law_rounds" = some (.ref a.f__law_rounds)
  f__law_told : FunC K "_law_told" s__law_told a.f__law_told a.c__law_told a.d__law_told
  g__law_told : mg "_law_told" = some (.ref a.f__law_told)
  f__law_deed : FunC K "_law_deed" s__law_deed a.f__law_deed a.c__law_deed a.d__law_deed
  g__law_deed : mg "_law_deed" = some (.ref a.f__law_deed)
  l__law_deed : LamX.TabB base mg a.c__law_deed a.p__law_deed
  lm__law_deed : (a.p__law_deed, (envOfC "_law_deed" (defScope s__law_deed) 0 0 (.ref 0)).qual ++ "<lambda>") ∈ T.tl
  lu__law_deed : ∀ p ∈ T.tl, p.1 = a.p__law_deed → p.2 = (envOfC "_law_deed" (defScope s__law_deed) 0 0 (.ref 0)).qual ++ "<lambda>"
  ln__law_deed : a.p__law_deed ∉ T.tg ++ T.tn
  f_law : FunC K "law" s_law a.f_law a.c_law a.d_law
  g_law : mg "law" = some (.ref a.f_law)
  l_law : LamX.TabB base mg a.c_law a.p_law
  lm_law : (a.p_law, (envOfC "law" (defScope s_law) 0 0 (.ref 0)).qual ++ "<lambda>") ∈ T.tl
  lu_law : ∀ p ∈ T.tl, p.1 = a.p_law → p.2 = (envOfC "law" (defScope s_law) 0 0 (.ref 0)).qual ++ "<lambda>"
  ln_law : a.p_law ∉ T.tg ++ T.tn
  x_BadDeed : ExM K mg "BadDeed" a.x_BadDeed
  xe_BadDeed : PySem.W.excIn K a.x_BadDeed [.type "ValueError", .type "Exception", .type "BaseException", .type "object"] "ValueError.__new__" = true
  R_g : mg "Register" = some (.ref a.C_R)
  t_ri : GxR.TabB base mg a.c_ri a.p_ri
  tm_ri : a.p_ri ∈ T.tg
  tn_ri : a.p_ri ∉ T.ap
  em_BadDeed_BadDeed : PySem.W.exmOne K (.ref a.x_BadDeed) (.ref a.x_BadDeed) = some true
  R : RgC K a.C_R
  mk_ri : Mk K a.C_R a.f_ri
  F_ri : FunM K "__init__" "Register.__init__" s_ri a.f_ri a.c_ri a.d_ri
  F_st : FunM K "state" "Register.state" s_st a.f_st a.c_st a.d_st
  F_no : FunM K "note" "Register.note" s_no a.f_no a.c_no a.d_no
  F_go : FunM K "go_on" "Register.go_on" s_go a.f_go a.c_go a.d_go
  F_ti : FunM K "take_in" "Register.take_in" s_ti a.f_ti a.c_ti a.d_ti
  F_pb : FunM K "put_by" "Register.put_by" s_pb a.f_pb a.c_pb a.d_pb
  F_si : FunM K "shown_in" "Register.shown_in" s_si a.f_si a.c_si a.d_si
  F_lt : FunM K "lent_to" "Register.lent_to" s_lt a.f_lt a.c_lt a.d_lt
  F_of : FunM K "often" "Register.often" s_of a.f_of a.c_of a.d_of
  F_sh : FunM K "show" "Register.show" s_sh a.f_sh a.c_sh a.d_sh
  F_le : FunM K "lend" "Register.lend" s_le a.f_le a.c_le a.d_le
  F_lg : FunM K "let_go" "Register.let_go" s_lg a.f_lg a.c_lg a.d_lg
  F_rn : FunM K "rename" "Register.rename" s_rn a.f_rn a.c_rn a.d_rn
  F_un : FunM K "undo" "Register.undo" s_un a.f_un a.c_un a.d_un
  F_re : FunM K "redo" "Register.redo" s_re a.f_re a.c_re a.d_re
  me_st : Meth K a.C_R "state" a.f_st
  me_no : Meth K a.C_R "note" a.f_no
  me_go : Meth K a.C_R "go_on" a.f_go
  me_ti : Meth K a.C_R "take_in" a.f_ti
  me_pb : Meth K a.C_R "put_by" a.f_pb
  me_si : Meth K a.C_R "shown_in" a.f_si
  me_lt : Meth K a.C_R "lent_to" a.f_lt
  me_of : Meth K a.C_R "often" a.f_of
  me_sh : Meth K a.C_R "show" a.f_sh
  me_le : Meth K a.C_R "lend" a.f_le
  me_lg : Meth K a.C_R "let_go" a.f_lg
  me_rn : Meth K a.C_R "rename" a.f_rn
  me_un : Meth K a.C_R "undo" a.f_un
  me_re : Meth K a.C_R "redo" a.f_re
abbrev N_is_thing : List Str := ["thing", "year", "lot", "item", "one"]
theorem sc_is_thing : FnScope N_is_thing ["thing"] (defScope s_is_thing) := ⟨rfl, rfl, rfl, by decide +kernel, rfl, by decide +kernel, by decide +kernel⟩
abbrev N__law_dice : List Str := ["cell"]
theorem sc__law_dice : FnScope N__law_dice ["cell"] (defScope s__law_dice) := ⟨rfl, rfl, rfl, by decide +kernel, rfl, by decide +kernel, by decide +kernel⟩
abbrev N__law_roll : List Str := ["dice", "many", "found"]
theorem sc__law_roll : FnScope N__law_roll ["dice", "many"] (defScope s__law_roll) := ⟨rfl, rfl, rfl, by decide +kernel, rfl, by decide +kernel, by decide +kernel⟩
abbrev N__law_rounds : List Str := ["script", "most", "cells", "cell"]
theorem sc__law_rounds : FnScope N__law_rounds ["script", "most"] (defScope s__law_rounds) := ⟨rfl, rfl, rfl, by decide +kernel, rfl, by decide +kernel, by decide +kernel⟩
abbrev N__law_told : List Str := ["what"]
theorem sc__law_told : FnScope N__law_told ["what"] (defScope s__law_told) := ⟨rfl, rfl, rfl, by decide +kernel, rfl, by decide +kernel, by decide +kernel⟩
abbrev N__law_deed : List Str := ["book", "dice", "now", "kind", "thing", "room", "name", "here", "state", "after", "full", "fine", "one", "row"]
theorem sc__law_deed : FnScope N__law_deed ["book", "dice", "now"] (defScope s__law_deed) := ⟨rfl, rfl, rfl, by decide +kernel, rfl, by decide +kernel, by decide +kernel⟩
abbrev N_law : List Str := ["script", "dice", "book", "rows", "place", "turn", "step", "fine", "told", "thing", "after", "deed", "table", "now", "room", "one", "row", "past", "state", "there"]
theorem sc_law : FnScope N_law ["script"] (defScope s_law) := ⟨rfl, rfl, rfl, by decide +kernel, rfl, by decide +kernel, by decide +kernel⟩
section
variable {P : Program} {w : World} {K : PySem.W.Frag} {mg : Str → Option Value} {base : Heap} {T : Tb} {a : Ad}
theorem bi_is_thing (t : Tx a K mg base T) : L2.Binds K a.d_is_thing ["thing"] [] := t.f_is_thing.binds (ps := ["thing"]) fun _ _ _ _ _ _ us hl => match us, hl with | [_], _ => rfl
theorem bi__law_dice (t : Tx a K mg base T) : L2.Binds K a.d__law_dice ["cell"] [] := t.f__law_dice.binds (ps := ["cell"]) fun _ _ _ _ _ _ us hl => match us, hl with | [_], _ => rfl
theorem bi__law_roll (t : Tx a K mg base T) : L2.Binds K a.d__law_roll ["dice", "many"] [] := t.f__law_roll.binds (ps := ["dice", "many"]) fun _ _ _ _ _ _ us hl => match us, hl with | [_, _], _ => rfl
theorem bi__law_rounds (t : Tx a K mg base T) : L2.Binds K a.d__law_rounds ["script", "most"] [] := t.f__law_rounds.binds (ps := ["script", "most"]) fun _ _ _ _ _ _ us hl => match us, hl with | [_, _], _ => rfl
theorem bi__law_told (t : Tx a K mg base T) : L2.Binds K a.d__law_told ["what"] [] := t.f__law_told.binds (ps := ["what"]) fun _ _ _ _ _ _ us hl => match us, hl with | [_], _ => rfl
theorem bi__law_deed (t : Tx a K mg base T) : L2.Binds K a.d__law_deed ["book", "dice", "now"] [] := t.f__law_deed.binds (ps := ["book", "dice", "now"]) fun _ _ _ _ _ _ us hl => match us, hl with | [_, _, _], _ => rfl
theorem Tx.dc0 (t : Tx a K mg base T) : Tx a K mg base { T with dc := [] } := ⟨t.m_abs, t.m_all, t.m_any, t.m_bool, t.m_dict, t.m_int, t.m_isinstance, t.m_len, t.m_list, t.m_min, t.m_range, t.m_sorted, t.m_tuple, t.f_is_thing, t.g_is_thing, t.t_is_thing, t.tm_is_thing, t.tn_is_thing, t.f__law_dice, t.g__law_dice, t.f__law_roll, t.g__law_roll, t.f__law_rounds, t.g__law_rounds, t.f__law_told, t.g__law_told, t.f__law_deed, t.g__law_deed, t.l__law_deed, t.lm__law_deed, t.lu__law_deed, t.ln__law_deed, t.f_law, t.g_law, t.l_law, t.lm_law, t.lu_law, t.ln_law, t.x_BadDeed, t.xe_BadDeed, t.R_g, t.t_ri, t.tm_ri, t.tn_ri, t.em_BadDeed_BadDeed, t.R, t.mk_ri, t.F_ri, t.F_st, t.F_no, t.F_go, t.F_ti, t.F_pb, t.F_si, t.F_lt, t.F_of, t.F_sh, t.F_le, t.F_lg, t.F_rn, t.F_un, t.F_re, t.me_st, t.me_no, t.me_go, t.me_ti, t.me_pb, t.me_si, t.me_lt, t.me_of, t.me_sh, t.me_le, t.me_lg, t.me_rn, t.me_un, t.me_re⟩
abbrev N_ri : List Str := ["self", "rooms", "room"]
theorem sc_ri : FnScope N_ri ["self", "rooms"] (defScope s_ri) := ⟨rfl, rfl, rfl, by decide +kernel, rfl, by decide +kernel, by decide +kernel⟩
theorem bi_ri (t : Tx a K mg base T) : L2.Binds K a.d_ri ["self", "rooms"] [] := t.F_ri.binds (ps := ["self", "rooms"]) fun _ _ _ _ _ _ us hl => match us, hl with | [_, _], _ => rfl
abbrev N_st : List Str := ["self"]
theorem sc_st : FnScope N_st ["self"] (defScope s_st) := ⟨rfl, rfl, rfl, by decide +kernel, rfl, by decide +kernel, by decide +kernel⟩
theorem bi_st (t : Tx a K mg base T) : L2.Binds K a.d_st ["self"] [] := t.F_st.binds (ps := ["self"]) fun _ _ _ _ _ _ us hl => match us, hl with | [_], _ => rfl
abbrev N_no : List Str := ["self", "thing", "after", "before"]
theorem sc_no : FnScope N_no ["self", "thing", "after"] (defScope s_no) := ⟨rfl, rfl, rfl, by decide +kernel, rfl, by decide +kernel, by decide +kernel⟩
theorem bi_no (t : Tx a K mg base T) : L2.Binds K a.d_no ["self", "thing", "after"] [] := t.F_no.binds (ps := ["self", "thing", "after"]) fun _ _ _ _ _ _ us hl => match us, hl with | [_, _, _], _ => rfl
abbrev N_go : List Str := ["self", "thing", "states", "after", "place", "name", "state", "here", "past"]
theorem sc_go : FnScope N_go ["self", "thing", "states", "after", "place"] (defScope s_go) := ⟨rfl, rfl, rfl, by decide +kernel, rfl, by decide +kernel, by decide +kernel⟩
theorem bi_go (t : Tx a K mg base T) : L2.Binds K a.d_go ["self", "thing", "states", "after", "place"] [] := t.F_go.binds (ps := ["self", "thing", "states", "after", "place"]) fun _ _ _ _ _ _ us hl => match us, hl with | [_, _, _, _, _], _ => rfl
abbrev N_ti : List Str := ["self", "thing", "name"]
theorem sc_ti : FnScope N_ti ["self", "thing", "name"] (defScope s_ti) := ⟨rfl, rfl, rfl, by decide +kernel, rfl, by decide +kernel, by decide +kernel⟩
theorem bi_ti (t : Tx a K mg base T) : L2.Binds K a.d_ti ["self", "thing", "name"] [] := t.F_ti.binds (ps := ["self", "thing", "name"]) fun _ _ _ _ _ _ us hl => match us, hl with | [_, _, _], _ => rfl
abbrev N_pb : List Str := ["self", "thing"]
theorem sc_pb : FnScope N_pb ["self", "thing"] (defScope s_pb) := ⟨rfl, rfl, rfl, by decide +kernel, rfl, by decide +kernel, by decide +kernel⟩
theorem bi_pb (t : Tx a K mg base T) : L2.Binds K a.d_pb ["self", "thing"] [] := t.F_pb.binds (ps := ["self", "thing"]) fun _ _ _ _ _ _ us hl => match us, hl with | [_, _], _ => rfl
abbrev N_si : List Str := ["self", "room", "thing", "row"]
theorem sc_si : FnScope N_si ["self", "room"] (defScope s_si) := ⟨rfl, rfl, rfl, by decide +kernel, rfl, by decide +kernel, by decide +kernel⟩
theorem bi_si (t : Tx a K mg base T) : L2.Binds K a.d_si ["self", "room"] [] := t.F_si.binds (ps := ["self", "room"]) fun _ _ _ _ _ _ us hl => match us, hl with | [_, _], _ => rfl
abbrev N_lt : List Str := ["self", "house", "thing", "row"]
theorem sc_lt : FnScope N_lt ["self", "house"] (defScope s_lt) := ⟨rfl, rfl, rfl, by decide +kernel, rfl, by decide +kernel, by decide +kernel⟩
theorem bi_lt (t : Tx a K mg base T) : L2.Binds K a.d_lt ["self", "house"] [] := t.F_lt.binds (ps := ["self", "house"]) fun _ _ _ _ _ _ us hl => match us, hl with | [_, _], _ => rfl
abbrev N_of : List Str := ["self", "thing", "past", "state", "place"]
theorem sc_of : FnScope N_of ["self", "thing"] (defScope s_of) := ⟨rfl, rfl, rfl, by decide +kernel, rfl, by decide +kernel, by decide +kernel⟩
theorem bi_of (t : Tx a K mg base T) : L2.Binds K a.d_of ["self", "thing"] [] := t.F_of.binds (ps := ["self", "thing"]) fun _ _ _ _ _ _ us hl => match us, hl with | [_, _], _ => rfl
abbrev N_sh : List Str := ["self", "thing", "room"]
theorem sc_sh : FnScope N_sh ["self", "thing", "room"] (defScope s_sh) := ⟨rfl, rfl, rfl, by decide +kernel, rfl, by decide +kernel, by decide +kernel⟩
theorem bi_sh (t : Tx a K mg base T) : L2.Binds K a.d_sh ["self", "thing", "room"] [] := t.F_sh.binds (ps := ["self", "thing", "room"]) fun _ _ _ _ _ _ us hl => match us, hl with | [_, _, _], _ => rfl
abbrev N_le : List Str := ["self", "thing", "house"]
theorem sc_le : FnScope N_le ["self", "thing", "house"] (defScope s_le) := ⟨rfl, rfl, rfl, by decide +kernel, rfl, by decide +kernel, by decide +kernel⟩
theorem bi_le (t : Tx a K mg base T) : L2.Binds K a.d_le ["self", "thing", "house"] [] := t.F_le.binds (ps := ["self", "thing", "house"]) fun _ _ _ _ _ _ us hl => match us, hl with | [_, _, _], _ => rfl
abbrev N_lg : List Str := ["self", "thing"]
theorem sc_lg : FnScope N_lg ["self", "thing"] (defScope s_lg) := ⟨rfl, rfl, rfl, by decide +kernel, rfl, by decide +kernel, by decide +kernel⟩
theorem bi_lg (t : Tx a K mg base T) : L2.Binds K a.d_lg ["self", "thing"] [] := t.F_lg.binds (ps := ["self", "thing"]) fun _ _ _ _ _ _ us hl => match us, hl with | [_, _], _ => rfl
abbrev N_rn : List Str := ["self", "thing", "name"]
theorem sc_rn : FnScope N_rn ["self", "thing", "name"] (defScope s_rn) := ⟨rfl, rfl, rfl, by decide +kernel, rfl, by decide +kernel, by decide +kernel⟩
theorem bi_rn (t : Tx a K mg base T) : L2.Binds K a.d_rn ["self", "thing", "name"] [] := t.F_rn.binds (ps := ["self", "thing", "name"]) fun _ _ _ _ _ _ us hl => match us, hl with | [_, _, _], _ => rfl
abbrev N_un : List Str := ["self", "deed"]
theorem sc_un : FnScope N_un ["self"] (defScope s_un) := ⟨rfl, rfl, rfl, by decide +kernel, rfl, by decide +kernel, by decide +kernel⟩
theorem bi_un (t : Tx a K mg base T) : L2.Binds K a.d_un ["self"] [] := t.F_un.binds (ps := ["self"]) fun _ _ _ _ _ _ us hl => match us, hl with | [_], _ => rfl
abbrev N_re : List Str := ["self", "deed"]
theorem sc_re : FnScope N_re ["self"] (defScope s_re) := ⟨rfl, rfl, rfl, by decide +kernel, rfl, by decide +kernel, by decide +kernel⟩
theorem bi_re (t : Tx a K mg base T) : L2.Binds K a.d_re ["self"] [] := t.F_re.binds (ps := ["self"]) fun _ _ _ _ _ _ us hl => match us, hl with | [_], _ => rfl
def u_is_thing (a : Ad) : SW :=
 (sSeq (sIf (wOr (wNot (wT (wIsi "tuple" (wVar 0)))) (wT (w2 (fEq true) (w1 fLen (wRd 0)) (wC (.int 3))))) (sRet (wC (.bool false))) sNil)
 (sSeq (sIf (wNot (wT (wGen PyData.bool (wItT (wVar 0)) (gNameD 4) wYes (wAndV (wIsi "int" (wVar 4)) (wNotV (wIsi "bool" (wVar 4)))) [4] rAllD))) (sRet (wC (.bool false))) sNil)
 (sSeq (sAsg (wVar 0) (gTupD 3 (gConsD (gNameD 1) (gConsD (gNameD 2) (gConsD (gNameD 3) gNilD)))))
 (sRet (wAndV (wCh (fC fun i j => decide (i ≤ j)) (fC fun i j => decide (i ≤ j)) (wC (.int 1800)) (wVar 1) (wC (.int 2199))) (wAndV (wCh (fC fun i j => decide (i ≤ j)) (fC fun i j => decide (i ≤ j)) (wC (.int 0)) (wVar 2) (wC (.int 999))) (wCh (fC fun i j => decide (i ≤ j)) (fC fun i j => decide (i ≤ j)) (wC (.int 0)) (wVar 3) (wC (.int 999)))))))))
def c_is_thing (a : Ad) : PW := cOf N_is_thing (u_is_thing a)
theorem dd_is_thing (t : Tx a K mg base T) (A : Around) (outer : List Env) (s : Shared) (H : Hp) (E : XK) (hr : Room 12 (A.deeper (envOfC "is_thing" (defScope s_is_thing) s.heap.objs.size a.f_is_thing (.ref a.c_is_thing)))) :
  DSs T (cxOf (L2.CX P w) P w K mg base N_is_thing "is_thing" (defScope s_is_thing) a.f_is_thing (.ref a.c_is_thing) A outer s H E) (fun cls d _ H => E cls d H) (defBody s_is_thing) (u_is_thing a) :=
 (dss_cons (ds_if (dt_bool (dw_or (dt_not (dt_val (de_isi kit_tuple bt_tuple (by rfl) t.m_isinstance (by rfl) t.m_tuple (de_var 0 (pv 0))))) (dw_or1 (dt_cmp (opD_ne hr) mono_eq (dr_of (de_callB cd_len mono_len (by rfl) t.m_len bt_len (dr_var 0 (pv 0)))) (dr_of de_int) (by rfl)))))
 (dss_one (ds_ret de_bl)) dss_nil)
 (dss_cons (ds_if (dt_not (dt_val (de_gen (toD := PyData.bool) (toV := V.bl) (R := rAllD) (vR := (fun l => .bl (l.all id))) false hTB (fun _ _ _ => .bl _) (k := 11) hrr_all (GxI.gx_all hr) (by rfl) t.m_all hr (by rfl) sc_is_thing.nd (.of t.t_is_thing) t.tm_is_thing t.tn_is_thing (by rfl) ⟨by rfl, nocell_by (by rfl), by rfl⟩ (blk_by (own := [("one", 4)]) (by rfl)) (sl := [4]) (by decide) (di_tup (de_var 0 (pv 0))) (fun _ _ _ _ _ _ _ => (dg_name 4 (pg_name sc_is_thing.nd rfl (by first | exact .inl rfl | exact .inr rfl)))) (fun _ _ _ _ _ _ _ hR => dts_nil) (fun _ _ _ _ _ _ _ hR => (de_and (de_isi kit_int bt_int (by rfl) t.m_isinstance (by rfl) t.m_int (de_var 4 (pv 4))) (de_one (de_not (de_isi kit_bool bt_bool (by rfl) t.m_isinstance (by rfl) t.m_bool (de_var 4 (pv 4))))))))))
 (dss_one (ds_ret de_bl)) dss_nil)
 (dss_cons (ds_asg (de_var 0 (pv 0)) (dg_tup (by rfl) (dgs_cons (dg_name 1 (pg_name sc_is_thing.nd rfl (by first | exact .inl rfl | exact .inr rfl))) (dgs_cons (dg_name 2 (pg_name sc_is_thing.nd rfl (by first | exact .inl rfl | exact .inr rfl))) (dgs_cons (dg_name 3 (pg_name sc_is_thing.nd rfl (by first | exact .inl rfl | exact .inr rfl))) dgs_nil)))))
 (dss_one (ds_ret (de_and (de_chain opD_leI opD_leI mono_fC mono_fC de_int (de_var 1 (pv 1)) de_int) (de_and (de_chain opD_leI opD_leI mono_fC mono_fC de_int (de_var 2 (pv 2)) de_int) (de_one (de_chain opD_leI opD_leI mono_fC mono_fC de_int (de_var 3 (pv 3)) de_int)))))))))
theorem mono_is_thing (t : Tx a K mg base T) (w : World) (s : Shared) {A : Around} (hr : Room (12 + 1) A) : Mono (c_is_thing a) := mono_cOf (dd_is_thing (P := PySem.Challenge.pw_museum_k17_a_register_and_its_deeds) (w := w) t A [] s (fun _ => none) (fun _ _ _ => False) (hr.deeper _)).mono
theorem ok_is_thing (t : Tx a K mg base T) : FnOk P w K mg base (L2.CX P w) (12 + 1) a.f_is_thing a.d_is_thing ["thing"] (spD T K 1 (c_is_thing a)) := fn_okD t.f_is_thing sc_is_thing fun A outer s H E hr => dd_is_thing t A outer s H E hr
def u__law_dice (a : Ad) : SW :=
 (sSeq (sIf (wT (wCh (fC fun i j => decide (i < j)) (fC fun i j => decide (i < j)) (w2 (fI CT fun i j => i - j) (wC (.int 0)) (wC (.int 10))) (wVar 0) (wC (.int 10)))) (sRet (wLst (wCons (w1 fAbs (wRd 0)) (wCons (wC (.int 0)) (wCons (wC (.int 2)) wNil))))) sNil)
 (sRet (wLst (wCons (wVar 0) (wCons (w2 fAdd (wC (.int 1)) (w2 (fI (fun _ j => 0 < j) fun i j => i % j) (w1 fInt (wRd 0)) (wC (.int 1009)))) (wCons (w1 fInt (w2 (fC fun i j => decide (j ≤ i)) (wRd 0) (w2 (fI CPow fun i j => i ^ j.toNat) (wC (.int 10)) (wC (.int 18))))) wNil))))))
def c__law_dice (a : Ad) : PW := cOf N__law_dice (u__law_dice a)
theorem dd__law_dice (t : Tx a K mg base T) (A : Around) (outer : List Env) (s : Shared) (H : Hp) (E : XK) (hr : Room 10 (A.deeper (envOfC "_law_dice" (defScope s__law_dice) s.heap.objs.size a.f__law_dice (.ref a.c__law_dice)))) :
  DSs T (cxOf (L2.CX P w) P w K mg base N__law_dice "_law_dice" (defScope s__law_dice) a.f__law_dice (.ref a.c__law_dice) A outer s H E) (fun cls d _ H => E cls d H) (defBody s__law_dice) (u__law_dice a) :=
 (dss_cons (ds_if (dt_chain opD_ltI opD_ltI mono_fC mono_fC (de_op opD_sub mono_fI (dr_of de_int) (dr_of de_int)) (de_var 0 (pv 0)) de_int)
 (dss_one (ds_ret (de_fresh (df_lst (da_cons (de_callB cd_abs mono_abs (by rfl) t.m_abs bt_abs (dr_var 0 (pv 0))) (da_cons de_int (da_cons de_int da_nil))))))) dss_nil)
 (dss_one (ds_ret (de_fresh (df_lst (da_cons (de_var 0 (pv 0)) (da_cons (de_op opD_add mono_add (dr_of de_int) (dr_of (de_op opD_mod mono_fI (dr_of (de_callTy cd_int mono_int (by rfl) t.m_int bt_int (dr_var 0 (pv 0)))) (dr_of de_int)))) (da_cons (de_callTy cd_int mono_int (by rfl) t.m_int bt_int (dr_of (de_cmp opD_geI mono_fC (dr_var 0 (pv 0)) (dr_of (de_op opD_pow mono_fI (dr_of de_int) (dr_of de_int))) (by rfl)))) da_nil))))))))
theorem mono__law_dice (t : Tx a K mg base T) (w : World) (s : Shared) {A : Around} (hr : Room (10 + 1) A) : Mono (c__law_dice a) := mono_cOf (dd__law_dice (P := PySem.Challenge.pw_museum_k17_a_register_and_its_deeds) (w := w) t A [] s (fun _ => none) (fun _ _ _ => False) (hr.deeper _)).mono
theorem ok__law_dice (t : Tx a K mg base T) : FnOk P w K mg base (L2.CX P w) (10 + 1) a.f__law_dice a.d__law_dice ["cell"] (spD T K 1 (c__law_dice a)) := fn_okD t.f__law_dice sc__law_dice fun A outer s H E hr => dd__law_dice t A outer s H E hr
def u__law_roll (a : Ad) : SW :=
 (sSeq (sIf (wOr (wT (w2 (fEq false) (wDix 0 2) (wC (.int 2)))) (wAnd (wT (w2 (fEq false) (wDix 0 2) (wC (.int 1)))) (wT (w2 (fC fun i j => decide (j < i)) (wDix 0 0) (wC (.int 0)))))) (sSeq (sSet 2 (w2 (fI (fun _ j => 0 < j) fun i j => i % j) (w1 fInt (wDix 0 0)) (wRd 1)))
 (sSeq (sDst 0 0 (w2 (fI CDiv fun i j => i / j) (wDix 0 0) (wRd 1)))
 (sRet (wVar 2)))) sNil)
 (sSeq (sDst 0 2 (wC (.int 0)))
 (sSeq (sDst 0 0 (w2 (fI (fun _ j => 0 < j) fun i j => i % j) (w1 fInt (w2 fAdd (w2 fAdd (w2 fMul (wDix 0 0) (wC (.int 48271))) (w2 fMul (wDix 0 1) (wC (.int 69621)))) (wC (.int 11)))) (wC (.int 2147483647))))
 (sSeq (sDst 0 1 (w2 fAdd (wDix 0 1) (wC (.int 1))))
 (sRet (w2 (fI (fun _ j => 0 < j) fun i j => i % j) (w1 fInt (w2 fAdd (w2 (fI CDiv fun i j => i / j) (wDix 0 0) (wC (.int 7))) (wDix 0 0))) (wRd 1)))))))
def c__law_roll (a : Ad) : PW := cOf N__law_roll (u__law_roll a)
theorem dd__law_roll (t : Tx a K mg base T) (A : Around) (outer : List Env) (s : Shared) (H : Hp) (E : XK) (hr : Room 10 (A.deeper (envOfC "_law_roll" (defScope s__law_roll) s.heap.objs.size a.f__law_roll (.ref a.c__law_roll)))) :
  DSs T (cxOf (L2.CX P w) P w K mg base N__law_roll "_law_roll" (defScope s__law_roll) a.f__law_roll (.ref a.c__law_roll) A outer s H E) (fun cls d _ H => E cls d H) (defBody s__law_roll) (u__law_roll a) :=
 (dss_cons (ds_if (dt_bool (dw_or (dt_cmp (opD_eq hr) mono_eq (dr_of (de_dix (i := 0) (k := 2) (pv 0))) (dr_of de_int) (by rfl)) (dw_or1 (dt_bool (dw_and (dt_cmp (opD_eq hr) mono_eq (dr_of (de_dix (i := 0) (k := 2) (pv 0))) (dr_of de_int) (by rfl)) (dw_and1 (dt_cmp opD_gtI mono_fC (dr_of (de_dix (i := 0) (k := 0) (pv 0))) (dr_of de_int) (by rfl))))))))
 (dss_cons (ds_set (i := 2) sc__law_roll.nd rfl (by first | exact .inl rfl | exact .inr rfl) (de_op opD_mod mono_fI (dr_of (de_callTy cd_int mono_int (by rfl) t.m_int bt_int (dr_of (de_dix (i := 0) (k := 0) (pv 0))))) (dr_var 1 (pv 1))))
 (dss_cons (ds_dst (i := 0) (k := 0) (pv 0) (de_op opD_fdiv mono_fI (dr_of (de_dix (i := 0) (k := 0) (pv 0))) (dr_var 1 (pv 1))))
 (dss_one (ds_ret (de_var 2 (pv 2)))))) dss_nil)
 (dss_cons (ds_dst (i := 0) (k := 2) (pv 0) de_int)
 (dss_cons (ds_dst (i := 0) (k := 0) (pv 0) (de_op opD_mod mono_fI (dr_of (de_callTy cd_int mono_int (by rfl) t.m_int bt_int (dr_of (de_op opD_add mono_add (dr_of (de_op opD_add mono_add (dr_of (de_op opD_mul mono_mul (dr_of (de_dix (i := 0) (k := 0) (pv 0))) (dr_of de_int))) (dr_of (de_op opD_mul mono_mul (dr_of (de_dix (i := 0) (k := 1) (pv 0))) (dr_of de_int))))) (dr_of de_int))))) (dr_of de_int)))
 (dss_cons (ds_dst (i := 0) (k := 1) (pv 0) (de_op opD_add mono_add (dr_of (de_dix (i := 0) (k := 1) (pv 0))) (dr_of de_int)))
 (dss_one (ds_ret (de_op opD_mod mono_fI (dr_of (de_callTy cd_int mono_int (by rfl) t.m_int bt_int (dr_of (de_op opD_add mono_add (dr_of (de_op opD_fdiv mono_fI (dr_of (de_dix (i := 0) (k := 0) (pv 0))) (dr_of de_int))) (dr_of (de_dix (i := 0) (k := 0) (pv 0))))))) (dr_var 1 (pv 1)))))))))
theorem mono__law_roll (t : Tx a K mg base T) (w : World) (s : Shared) {A : Around} (hr : Room (10 + 1) A) : Mono (c__law_roll a) := mono_cOf (dd__law_roll (P := PySem.Challenge.pw_museum_k17_a_register_and_its_deeds) (w := w) t A [] s (fun _ => none) (fun _ _ _ => False) (hr.deeper _)).mono
theorem ok__law_roll (t : Tx a K mg base T) : FnOk P w K mg base (L2.CX P w) (10 + 1) a.f__law_roll a.d__law_roll ["dice", "many"] (spD T K 2 (c__law_roll a)) := fn_okD t.f__law_roll sc__law_roll fun A outer s H E hr => dd__law_roll t A outer s H E hr
def u__law_rounds (a : Ad) : SW :=
 (sSeq (sSet 2 (wScr 0 (wSo (wVar 1))))
 (sSeq (sIf (wT (w2 (fEq false) (wRd 2) (wLst wNil))) (sSet 2 (wLst (wCons (wC (.int 0)) wNil))) sNil)
 (sRet (wLc (wItL (wVar 2)) (gNameD 3) wYes (wCall 1 (c__law_dice a) (wpSh (wVar 3) wpNil)) [3]))))
def c__law_rounds (a : Ad) : PW := cOf N__law_rounds (u__law_rounds a)
theorem dd__law_rounds (t : Tx a K mg base T) (A : Around) (outer : List Env) (s : Shared) (H : Hp) (E : XK) (hr : Room 12 (A.deeper (envOfC "_law_rounds" (defScope s__law_rounds) s.heap.objs.size a.f__law_rounds (.ref a.c__law_rounds)))) :
  DSs T (cxOf (L2.CX P w) P w K mg base N__law_rounds "_law_rounds" (defScope s__law_rounds) a.f__law_rounds (.ref a.c__law_rounds) A outer s H E) (fun cls d _ H => E cls d H) (defBody s__law_rounds) (u__law_rounds a) :=
 (dss_cons (ds_set (i := 2) sc__law_rounds.nd rfl (by first | exact .inl rfl | exact .inr rfl) (de_fresh (df_scr (pv 0) (do_some (de_var 1 (pv 1))))))
 (dss_cons (ds_if (dt_cmp (opD_eq hr) mono_eq (dr_var 2 (pv 2)) (dr_of (de_fresh (df_lst da_nil))) (by rfl))
 (dss_one (ds_set (i := 2) sc__law_rounds.nd rfl (by first | exact .inl rfl | exact .inr rfl) (de_fresh (df_lst (da_cons de_int da_nil))))) dss_nil)
 (dss_one (ds_ret (de_fresh (df_lc (by rfl) sc__law_rounds.nd (di_list (de_var 2 (pv 2))) (blk_by (own := [("cell", 3)]) (by rfl)) (sl := [3]) (by decide) (fun _ _ _ _ _ => (dg_name 3 (pg_name sc__law_rounds.nd rfl (by first | exact .inl rfl | exact .inr rfl)))) (fun _ _ _ _ _ => dts_nil) (fun _ _ _ _ _ => (de_call (ok__law_dice t) (mono__law_dice t w s (hr.mono (by decide))) (hr.mono (by decide)) (by rfl) t.g__law_dice t.f__law_dice.kp (bi__law_dice t) L2.takes0 (dp_sh (de_var 3 (pv 3)) dp_nil)))))))))
theorem mono__law_rounds (t : Tx a K mg base T) (w : World) (s : Shared) {A : Around} (hr : Room (12 + 1) A) : Mono (c__law_rounds a) := mono_cOf (dd__law_rounds (P := PySem.Challenge.pw_museum_k17_a_register_and_its_deeds) (w := w) t A [] s (fun _ => none) (fun _ _ _ => False) (hr.deeper _)).mono
theorem ok__law_rounds (t : Tx a K mg base T) : FnOk P w K mg base (L2.CX P w) (12 + 1) a.f__law_rounds a.d__law_rounds ["script", "most"] (spD T K 2 (c__law_rounds a)) := fn_okD t.f__law_rounds sc__law_rounds fun A outer s H E hr => dd__law_rounds t A outer s H E hr
def s1_ri : Stmt := (defBody s_ri).getD 0 (.Pass ⟨0, 0, 0, 0⟩)
def u_ri1 (a : Ad) : SW :=
 (sIf (wT (wGen PyData.bool (wItL (wVar 1)) (gNameD 2) wYes (w2 (fC fun i j => decide (i < j)) (wRd 2) (wC (.int 0))) [2] rAnyD)) (sRaise a.x_BadDeed) sNil)
theorem dd_ri1 (t : Tx a K mg base T) (A : Around) (outer : List Env) (s : Shared) (H : Hp) (E : XK) (hr : Room 10 (A.deeper (envOfC "Register.__init__" (defScope s_ri) s.heap.objs.size a.f_ri (.ref a.c_ri)))) :
  DS T (cxOf (L2.CX P w) P w K mg base N_ri "Register.__init__" (defScope s_ri) a.f_ri (.ref a.c_ri) A outer s H E) (fun cls d _ H => E cls d H) s1_ri (u_ri1 a) :=
 (ds_if (dt_val (de_gen (toD := PyData.bool) (toV := V.bl) (R := rAnyD) (vR := (fun l => .bl (l.any id))) false hTB (fun _ _ _ => .bl _) (k := 9) hrr_any (GxI.gx_any hr) (by rfl) t.m_any hr (by rfl) sc_ri.nd (.of t.t_ri) t.tm_ri t.tn_ri (by rfl) ⟨by rfl, nocell_by (by rfl), by rfl⟩ (blk_by (own := [("room", 2)]) (by rfl)) (sl := [2]) (by decide) (di_list (de_var 1 (pv 1))) (fun _ _ _ _ _ _ _ => (dg_name 2 (pg_name sc_ri.nd rfl (by first | exact .inl rfl | exact .inr rfl)))) (fun _ _ _ _ _ _ _ hR => dts_nil) (fun _ _ _ _ _ _ _ hR => (de_cmp opD_ltI mono_fC (dr_var 2 (pv 2)) (dr_of de_int) (by rfl)))))
 (dss_one (ds_raise rfl (takes_of rfl rfl rfl rfl) (pmk_own PySem.F.excBase_ValueError t.xe_BadDeed t.x_BadDeed.g t.x_BadDeed.kp (raises_own t.x_BadDeed.sub t.x_BadDeed.ty) rfl))) dss_nil)
theorem hu_ri1 (p : Addr) (D : PEn) (h : D.nx [.sh (mk p), .sh (.list [.int 2, .int 1]), .un]) : u_ri1 a [.sh (mk p), .sh (.list [.int 2, .int 1]), .un] D :=
  ⟨U.noown rfl, [some false, some false], ⟨⟨rfl, rfl⟩, ⟨rfl, rfl⟩, trivial⟩, h⟩
theorem ok_ri17 (t : Tx a K mg base T) : FnOk P w K mg base (L2.CX P w) 11 a.f_ri a.d_ri ["self", "rooms"] (spRI2 T a.C_R [2, 1]) :=
  ok_ri2 (k := 10) (u1 := u_ri1 a) t.F_ri sc_ri rfl t.R (by rfl) (by rfl) (by rfl) (by rfl) t.m_tuple (fun A outer s H E hr => dd_ri1 t.dc0 A outer s H E hr) hu_ri1 (fun _ _ _ _ _ => by rfl) (fun _ _ _ _ _ => by rfl) (fun _ _ _ _ _ => by rfl) (fun _ _ _ _ _ => by rfl)
def u_st (a : Ad) : SW :=
 (sRetM (wSortR 0))
def c_st (a : Ad) : PW := cOf N_st (u_st a)
theorem dd_st (t : Tx a K mg base T) (A : Around) (outer : List Env) (s : Shared) (H : Hp) (E : XK) (hr : Room 10 (A.deeper (envOfC "Register.state" (defScope s_st) s.heap.objs.size a.f_st (.ref a.c_st)))) :
  DSs T (cxOf (L2.CX P w) P w K mg base N_st "Register.state" (defScope s_st) a.f_st (.ref a.c_st) A outer s H E) (fun cls d _ H => E cls d H) (defBody s_st) (u_st a) :=
 (dss_one (ds_retM (by rfl) t.m_tuple (dr_of (de_fresh (df_sortr t.R rfl hr (by rfl) t.m_sorted (pv 0) (by rfl))))))
theorem mono_st (t : Tx a K mg base T) (w : World) (s : Shared) {A : Around} (hr : Room (10 + 1) A) : Mono (c_st a) := mono_cOf (dd_st (P := PySem.Challenge.pw_museum_k17_a_register_and_its_deeds) (w := w) t A [] s (fun _ => none) (fun _ _ _ => False) (hr.deeper _)).mono
theorem ok_st (t : Tx a K mg base T) : FnOk P w K mg base (L2.CX P w) (10 + 1) a.f_st a.d_st ["self"] (spD T K 1 (c_st a)) := fn_okDM t.F_st sc_st fun A outer s H E hr => dd_st t A outer s H E hr
def uG_no (a : Ad) : SW :=
 (sSeq (sSet 3 (wLend 0 (wMethR 1 0 (c_st a) wpNil)))
 (sSeq (sThPut 0 1 2)
 (sSeq (sLApp .deeds 0 (wTup (wCons (wVar 3) (wCons (wLend 0 (wMethR 1 0 (c_st a) wpNil)) wNil))))
 (sUNil 0))))
def cG_no (a : Ad) : CG := cOfG N_no (uG_no a)
theorem ddG_no (t : Tx a K mg base T) (A : Around) (outer : List Env) (s : Shared) (H : Hp) (E : XK) (hr : Room 14 (A.deeper (envOfC "Register.note" (defScope s_no) s.heap.objs.size a.f_no (.ref a.c_no)))) :
  DSs T (cxOf (L2.CX P w) P w K mg base N_no "Register.note" (defScope s_no) a.f_no (.ref a.c_no) A outer s H E) (fun cls d _ H => E cls d H) (defBody s_no) (uG_no a) :=
 (dss_cons (ds_set (i := 3) sc_no.nd rfl (by first | exact .inl rfl | exact .inr rfl) (de_lend (de_methR0 t.R t.me_st (fun _ _ _ _ => by rfl) (ok_st t) (mono_st t w s (hr.mono (by decide))) (hr.mono (by decide)) (bi_st t) (takes_of rfl rfl rfl rfl) (pv 0) (by rfl))))
 (dss_cons (ds_thput t.R hr (pv 0) (by rfl) (pv 1) (pv 2) (by rfl))
 (dss_cons (ds_lapp .deeds t.R (pv 0) (by rfl) (de_tup (da_cons (de_var 3 (pv 3)) (da_cons (de_lend (de_methR0 t.R t.me_st (fun _ _ _ _ => by rfl) (ok_st t) (mono_st t w s (hr.mono (by decide))) (hr.mono (by decide)) (bi_st t) (takes_of rfl rfl rfl rfl) (pv 0) (by rfl))) da_nil))))
 (dss_one (ds_unil t.R (pv 0))))))
theorem monoG_no (t : Tx a K mg base T) (w : World) (s : Shared) {A : Around} (hr : Room (14 + 1) A) : MonoG (cG_no a) := mono_cOfG (ddG_no (P := PySem.Challenge.pw_museum_k17_a_register_and_its_deeds) (w := w) t A [] s (fun _ => none) (fun _ _ _ => False) (hr.deeper _)).mono
theorem okG_no (t : Tx a K mg base T) : FnOk P w K mg base (L2.CX P w) (14 + 1) a.f_no a.d_no ["self", "thing", "after"] (spG T K 3 (cG_no a)) := fn_okG t.F_no sc_no (List.cons_ne_nil _ _) fun A outer s H E hr => ddG_no t A outer s H E hr
def u_go (a : Ad) : SW :=
 (sSeq (sIf (wOr (wThIn true 0 1) (wT (w2 (fIn true) (w2 fIx (wThIx 0 1) (wC (.int 1))) (wRd 2)))) (sRaise a.x_BadDeed) sNil)
 (sSeq (sAsg (wThIx 0 1) (gTupD 4 (gConsD (gNameD 5) (gConsD (gNameD 6) (gConsD (gNameD 7) (gConsD (gNameD 8) gNilD))))))
 (fun _ _ => False)))
def c_go (a : Ad) : PW := cOf N_go (u_go a)
theorem dd_go (t : Tx a K mg base T) (A : Around) (outer : List Env) (s : Shared) (H : Hp) (E : XK) (hr : Room 18 (A.deeper (envOfC "Register.go_on" (defScope s_go) s.heap.objs.size a.f_go (.ref a.c_go)))) :
  DSs T (cxOf (L2.CX P w) P w K mg base N_go "Register.go_on" (defScope s_go) a.f_go (.ref a.c_go) A outer s H E) (fun cls d _ H => E cls d H) (defBody s_go) (u_go a) :=
 (dss_cons (ds_if (dt_bool (dw_or (dt_thnin t.R hr (pv 0) (by rfl) (pv 1)) (dw_or1 (dt_cmp (opD_notIn hr) mono_in (dr_of (de_ix (dr_of (de_thix t.R hr (pv 0) (by rfl) (pv 1) (fun _ _ => rfl))) (dr_of de_int))) (dr_var 2 (pv 2)) (by rfl)))))
 (dss_one (ds_raise rfl (takes_of rfl rfl rfl rfl) (pmk_own PySem.F.excBase_ValueError t.xe_BadDeed t.x_BadDeed.g t.x_BadDeed.kp (raises_own t.x_BadDeed.sub t.x_BadDeed.ty) rfl))) dss_nil)
 (dss_cons (ds_asg (de_thix t.R hr (pv 0) (by rfl) (pv 1) (fun _ _ => rfl)) (dg_tup (by rfl) (dgs_cons (dg_name 5 (pg_name sc_go.nd rfl (by first | exact .inl rfl | exact .inr rfl))) (dgs_cons (dg_name 6 (pg_name sc_go.nd rfl (by first | exact .inl rfl | exact .inr rfl))) (dgs_cons (dg_name 7 (pg_name sc_go.nd rfl (by first | exact .inl rfl | exact .inr rfl))) (dgs_cons (dg_name 8 (pg_name sc_go.nd rfl (by first | exact .inl rfl | exact .inr rfl))) dgs_nil))))))
 dss_off))
theorem mono_go (t : Tx a K mg base T) (w : World) (s : Shared) {A : Around} (hr : Room (18 + 1) A) : Mono (c_go a) := mono_cOf (dd_go (P := PySem.Challenge.pw_museum_k17_a_register_and_its_deeds) (w := w) t A [] s (fun _ => none) (fun _ _ _ => False) (hr.deeper _)).mono
theorem ok_go (t : Tx a K mg base T) : FnOk P w K mg base (L2.CX P w) (18 + 1) a.f_go a.d_go ["self", "thing", "states", "after", "place"] (spD T K 5 (c_go a)) := fn_okDM t.F_go sc_go fun A outer s H E hr => dd_go t A outer s H E hr
def uG_go (a : Ad) : SW :=
 (sSeq (sIf (wOr (wLendB 0 (wThIn true 0 1)) (wT (w2 (fIn true) (w2 fIx (wLend 0 (wThIx 0 1)) (wC (.int 1))) (wRd 2)))) (sRaise a.x_BadDeed) sNil)
 (sSeq (sAsg (wLend 0 (wThIx 0 1)) (gTupD 4 (gConsD (gNameD 5) (gConsD (gNameD 6) (gConsD (gNameD 7) (gConsD (gNameD 8) gNilD))))))
 (sMethG 3 0 (cG_no a) (wpSh (wVar 1) (wpSh (wTup (wCons (wVar 5) (wCons (wVar 3) (wCons (wVar 4) (wCons (w2 fAdd (wRd 8) (wTup (wCons (wTup (wCons (wVar 3) (wCons (wVar 4) wNil))) wNil))) wNil))))) wpNil)))))
def cG_go (a : Ad) : CG := cOfG N_go (uG_go a)
theorem ddG_go (t : Tx a K mg base T) (A : Around) (outer : List Env) (s : Shared) (H : Hp) (E : XK) (hr : Room 18 (A.deeper (envOfC "Register.go_on" (defScope s_go) s.heap.objs.size a.f_go (.ref a.c_go)))) :
  DSs T (cxOf (L2.CX P w) P w K mg base N_go "Register.go_on" (defScope s_go) a.f_go (.ref a.c_go) A outer s H E) (fun cls d _ H => E cls d H) (defBody s_go) (uG_go a) :=
 (dss_cons (ds_if (dt_bool (dw_or (dt_lend (dt_thnin t.R hr (pv 0) (by rfl) (pv 1))) (dw_or1 (dt_cmp (opD_notIn hr) mono_in (dr_of (de_ix (dr_of (de_lend (de_thix t.R hr (pv 0) (by rfl) (pv 1) (fun _ _ => rfl)))) (dr_of de_int))) (dr_var 2 (pv 2)) (by rfl)))))
 (dss_one (ds_raise rfl (takes_of rfl rfl rfl rfl) (pmk_own PySem.F.excBase_ValueError t.xe_BadDeed t.x_BadDeed.g t.x_BadDeed.kp (raises_own t.x_BadDeed.sub t.x_BadDeed.ty) rfl))) dss_nil)
 (dss_cons (ds_asg (de_lend (de_thix t.R hr (pv 0) (by rfl) (pv 1) (fun _ _ => rfl))) (dg_tup (by rfl) (dgs_cons (dg_name 5 (pg_name sc_go.nd rfl (by first | exact .inl rfl | exact .inr rfl))) (dgs_cons (dg_name 6 (pg_name sc_go.nd rfl (by first | exact .inl rfl | exact .inr rfl))) (dgs_cons (dg_name 7 (pg_name sc_go.nd rfl (by first | exact .inl rfl | exact .inr rfl))) (dgs_cons (dg_name 8 (pg_name sc_go.nd rfl (by first | exact .inl rfl | exact .inr rfl))) dgs_nil))))))
 (dss_one (ds_methG t.R t.me_no (fun _ _ _ _ => by rfl) (okG_no t) (monoG_no t w s (hr.mono (by decide))) (hr.mono (by decide)) (bi_no t) (takes_of rfl rfl rfl rfl) (pv 0) (dp_sh (de_var 1 (pv 1)) (dp_sh (de_tup (da_cons (de_var 5 (pv 5)) (da_cons (de_var 3 (pv 3)) (da_cons (de_var 4 (pv 4)) (da_cons (de_op opD_add mono_add (dr_var 8 (pv 8)) (dr_of (de_tup (da_cons (de_tup (da_cons (de_var 3 (pv 3)) (da_cons (de_var 4 (pv 4)) da_nil))) da_nil)))) da_nil))))) dp_nil)) (by rfl) (by rfl) (by rfl)))))
theorem monoG_go (t : Tx a K mg base T) (w : World) (s : Shared) {A : Around} (hr : Room (18 + 1) A) : MonoG (cG_go a) := mono_cOfG (ddG_go (P := PySem.Challenge.pw_museum_k17_a_register_and_its_deeds) (w := w) t A [] s (fun _ => none) (fun _ _ _ => False) (hr.deeper _)).mono
theorem okG_go (t : Tx a K mg base T) : FnOk P w K mg base (L2.CX P w) (18 + 1) a.f_go a.d_go ["self", "thing", "states", "after", "place"] (spG T K 5 (cG_go a)) := fn_okG t.F_go sc_go (List.cons_ne_nil _ _) fun A outer s H E hr => ddG_go t A outer s H E hr
def u_ti (a : Ad) : SW :=
 (sSeq (sIf (wOr (wNot (wT (wCall 1 (c_is_thing a) (wpSh (wVar 1) wpNil)))) (wOr (wThIn false 0 1) (wT (w2 (fEq false) (wRd 2) (wC (.str "")))))) (sRaise a.x_BadDeed) sNil)
 (fun _ _ => False))
def c_ti (a : Ad) : PW := cOf N_ti (u_ti a)
theorem dd_ti (t : Tx a K mg base T) (A : Around) (outer : List Env) (s : Shared) (H : Hp) (E : XK) (hr : Room 18 (A.deeper (envOfC "Register.take_in" (defScope s_ti) s.heap.objs.size a.f_ti (.ref a.c_ti)))) :
  DSs T (cxOf (L2.CX P w) P w K mg base N_ti "Register.take_in" (defScope s_ti) a.f_ti (.ref a.c_ti) A outer s H E) (fun cls d _ H => E cls d H) (defBody s_ti) (u_ti a) :=
 (dss_cons (ds_if (dt_bool (dw_or (dt_not (dt_val (de_call (ok_is_thing t) (mono_is_thing t w s (hr.mono (by decide))) (hr.mono (by decide)) (by rfl) t.g_is_thing t.f_is_thing.kp (bi_is_thing t) (takes_of rfl rfl rfl rfl) (dp_sh (de_var 1 (pv 1)) dp_nil)))) (dw_or (dt_thin t.R hr (pv 0) (by rfl) (pv 1)) (dw_or1 (dt_cmp (opD_eq hr) mono_eq (dr_var 2 (pv 2)) (dr_of de_str) (by rfl))))))
 (dss_one (ds_raise rfl (takes_of rfl rfl rfl rfl) (pmk_own PySem.F.excBase_ValueError t.xe_BadDeed t.x_BadDeed.g t.x_BadDeed.kp (raises_own t.x_BadDeed.sub t.x_BadDeed.ty) rfl))) dss_nil)
 dss_off)
theorem mono_ti (t : Tx a K mg base T) (w : World) (s : Shared) {A : Around} (hr : Room (18 + 1) A) : Mono (c_ti a) := mono_cOf (dd_ti (P := PySem.Challenge.pw_museum_k17_a_register_and_its_deeds) (w := w) t A [] s (fun _ => none) (fun _ _ _ => False) (hr.deeper _)).mono
theorem ok_ti (t : Tx a K mg base T) : FnOk P w K mg base (L2.CX P w) (18 + 1) a.f_ti a.d_ti ["self", "thing", "name"] (spD T K 3 (c_ti a)) := fn_okDM t.F_ti sc_ti fun A outer s H E hr => dd_ti t A outer s H E hr
def uG_ti (a : Ad) : SW :=
 (sSeq (sIf (wOr (wNot (wT (wCall 1 (c_is_thing a) (wpSh (wVar 1) wpNil)))) (wOr (wLendB 0 (wThIn false 0 1)) (wT (w2 (fEq false) (wRd 2) (wC (.str "")))))) (sRaise a.x_BadDeed) sNil)
 (sMethG 3 0 (cG_no a) (wpSh (wVar 1) (wpSh (wTup (wCons (wVar 2) (wCons (wC (.str "in")) (wCons (wC .none) (wCons (wTup (wCons (wTup (wCons (wC (.str "in")) (wCons (wC .none) wNil))) wNil)) wNil))))) wpNil))))
def cG_ti (a : Ad) : CG := cOfG N_ti (uG_ti a)
theorem ddG_ti (t : Tx a K mg base T) (A : Around) (outer : List Env) (s : Shared) (H : Hp) (E : XK) (hr : Room 18 (A.deeper (envOfC "Register.take_in" (defScope s_ti) s.heap.objs.size a.f_ti (.ref a.c_ti)))) :
  DSs T (cxOf (L2.CX P w) P w K mg base N_ti "Register.take_in" (defScope s_ti) a.f_ti (.ref a.c_ti) A outer s H E) (fun cls d _ H => E cls d H) (defBody s_ti) (uG_ti a) :=
 (dss_cons (ds_if (dt_bool (dw_or (dt_not (dt_val (de_call (ok_is_thing t) (mono_is_thing t w s (hr.mono (by decide))) (hr.mono (by decide)) (by rfl) t.g_is_thing t.f_is_thing.kp (bi_is_thing t) (takes_of rfl rfl rfl rfl) (dp_sh (de_var 1 (pv 1)) dp_nil)))) (dw_or (dt_lend (dt_thin t.R hr (pv 0) (by rfl) (pv 1))) (dw_or1 (dt_cmp (opD_eq hr) mono_eq (dr_var 2 (pv 2)) (dr_of de_str) (by rfl))))))
 (dss_one (ds_raise rfl (takes_of rfl rfl rfl rfl) (pmk_own PySem.F.excBase_ValueError t.xe_BadDeed t.x_BadDeed.g t.x_BadDeed.kp (raises_own t.x_BadDeed.sub t.x_BadDeed.ty) rfl))) dss_nil)
 (dss_one (ds_methG t.R t.me_no (fun _ _ _ _ => by rfl) (okG_no t) (monoG_no t w s (hr.mono (by decide))) (hr.mono (by decide)) (bi_no t) (takes_of rfl rfl rfl rfl) (pv 0) (dp_sh (de_var 1 (pv 1)) (dp_sh (de_tup (da_cons (de_var 2 (pv 2)) (da_cons de_str (da_cons de_non (da_cons (de_tup (da_cons (de_tup (da_cons de_str (da_cons de_non da_nil))) da_nil)) da_nil))))) dp_nil)) (by rfl) (by rfl) (by rfl))))
theorem monoG_ti (t : Tx a K mg base T) (w : World) (s : Shared) {A : Around} (hr : Room (18 + 1) A) : MonoG (cG_ti a) := mono_cOfG (ddG_ti (P := PySem.Challenge.pw_museum_k17_a_register_and_its_deeds) (w := w) t A [] s (fun _ => none) (fun _ _ _ => False) (hr.deeper _)).mono
theorem okG_ti (t : Tx a K mg base T) : FnOk P w K mg base (L2.CX P w) (18 + 1) a.f_ti a.d_ti ["self", "thing", "name"] (spG T K 3 (cG_ti a)) := fn_okG t.F_ti sc_ti (List.cons_ne_nil _ _) fun A outer s H E hr => ddG_ti t A outer s H E hr
def u_pb (a : Ad) : SW :=
 (sEx (wMethR 5 0 (c_go a) (wpSh (wVar 1) (wpSh (wTup (wCons (wC (.str "in")) (wCons (wC (.str "shown")) (wCons (wC (.str "lent")) wNil)))) (wpSh (wC (.str "store")) (wpSh (wC .none) wpNil))))))
def c_pb (a : Ad) : PW := cOf N_pb (u_pb a)
theorem dd_pb (t : Tx a K mg base T) (A : Around) (outer : List Env) (s : Shared) (H : Hp) (E : XK) (hr : Room 22 (A.deeper (envOfC "Register.put_by" (defScope s_pb) s.heap.objs.size a.f_pb (.ref a.c_pb)))) :
  DSs T (cxOf (L2.CX P w) P w K mg base N_pb "Register.put_by" (defScope s_pb) a.f_pb (.ref a.c_pb) A outer s H E) (fun cls d _ H => E cls d H) (defBody s_pb) (u_pb a) :=
 (dss_one (ds_ex (de_methR t.R t.me_go (fun _ _ _ _ => by rfl) (ok_go t) (mono_go t w s (hr.mono (by decide))) (hr.mono (by decide)) (bi_go t) (takes_of rfl rfl rfl rfl) (pv 0) (dp_sh (de_var 1 (pv 1)) (dp_sh (de_tup (da_cons de_str (da_cons de_str (da_cons de_str da_nil)))) (dp_sh de_str (dp_sh de_non dp_nil)))) (by rfl) (by rfl) (by rfl))))
theorem mono_pb (t : Tx a K mg base T) (w : World) (s : Shared) {A : Around} (hr : Room (22 + 1) A) : Mono (c_pb a) := mono_cOf (dd_pb (P := PySem.Challenge.pw_museum_k17_a_register_and_its_deeds) (w := w) t A [] s (fun _ => none) (fun _ _ _ => False) (hr.deeper _)).mono
theorem ok_pb (t : Tx a K mg base T) : FnOk P w K mg base (L2.CX P w) (22 + 1) a.f_pb a.d_pb ["self", "thing"] (spD T K 2 (c_pb a)) := fn_okDM t.F_pb sc_pb fun A outer s H E hr => dd_pb t A outer s H E hr
def uG_pb (a : Ad) : SW :=
 (sMethG 5 0 (cG_go a) (wpSh (wVar 1) (wpSh (wTup (wCons (wC (.str "in")) (wCons (wC (.str "shown")) (wCons (wC (.str "lent")) wNil)))) (wpSh (wC (.str "store")) (wpSh (wC .none) wpNil)))))
def cG_pb (a : Ad) : CG := cOfG N_pb (uG_pb a)
theorem ddG_pb (t : Tx a K mg base T) (A : Around) (outer : List Env) (s : Shared) (H : Hp) (E : XK) (hr : Room 22 (A.deeper (envOfC "Register.put_by" (defScope s_pb) s.heap.objs.size a.f_pb (.ref a.c_pb)))) :
  DSs T (cxOf (L2.CX P w) P w K mg base N_pb "Register.put_by" (defScope s_pb) a.f_pb (.ref a.c_pb) A outer s H E) (fun cls d _ H => E cls d H) (defBody s_pb) (uG_pb a) :=
 (dss_one (ds_methG t.R t.me_go (fun _ _ _ _ => by rfl) (okG_go t) (monoG_go t w s (hr.mono (by decide))) (hr.mono (by decide)) (bi_go t) (takes_of rfl rfl rfl rfl) (pv 0) (dp_sh (de_var 1 (pv 1)) (dp_sh (de_tup (da_cons de_str (da_cons de_str (da_cons de_str da_nil)))) (dp_sh de_str (dp_sh de_non dp_nil)))) (by rfl) (by rfl) (by rfl)))
theorem monoG_pb (t : Tx a K mg base T) (w : World) (s : Shared) {A : Around} (hr : Room (22 + 1) A) : MonoG (cG_pb a) := mono_cOfG (ddG_pb (P := PySem.Challenge.pw_museum_k17_a_register_and_its_deeds) (w := w) t A [] s (fun _ => none) (fun _ _ _ => False) (hr.deeper _)).mono
theorem okG_pb (t : Tx a K mg base T) : FnOk P w K mg base (L2.CX P w) (22 + 1) a.f_pb a.d_pb ["self", "thing"] (spG T K 2 (cG_pb a)) := fn_okG t.F_pb sc_pb (List.cons_ne_nil _ _) fun A outer s H E hr => ddG_pb t A outer s H E hr
def u_si (a : Ad) : SW :=
 (sRet (w1 fTuple (wLc (wItT (wUnp (wMethR 1 0 (c_st a) wpNil))) (gTupD 2 (gConsD (gNameD 2) (gConsD (gNameD 3) gNilD))) (wAnd (wT (w2 (fEq false) (w2 fIx (wRd 3) (wC (.int 1))) (wC (.str "shown")))) (wT (w2 (fEq false) (w2 fIx (wRd 3) (wC (.int 2))) (wRd 1)))) (wVar 2) [2, 3])))
def c_si (a : Ad) : PW := cOf N_si (u_si a)
theorem dd_si (t : Tx a K mg base T) (A : Around) (outer : List Env) (s : Shared) (H : Hp) (E : XK) (hr : Room 14 (A.deeper (envOfC "Register.shown_in" (defScope s_si) s.heap.objs.size a.f_si (.ref a.c_si)))) :
  DSs T (cxOf (L2.CX P w) P w K mg base N_si "Register.shown_in" (defScope s_si) a.f_si (.ref a.c_si) A outer s H E) (fun cls d _ H => E cls d H) (defBody s_si) (u_si a) :=
 (dss_one (ds_ret (de_callTy cd_tuple mono_tuple (by rfl) t.m_tuple bt_tuple (dr_of (de_fresh (df_lc (by rfl) sc_si.nd (di_tup (de_unp (de_methR0 t.R t.me_st (fun _ _ _ _ => by rfl) (ok_st t) (mono_st t w s (hr.mono (by decide))) (hr.mono (by decide)) (bi_st t) (takes_of rfl rfl rfl rfl) (pv 0) (by rfl)))) (blk_by (own := [("thing", 2), ("row", 3)]) (by rfl)) (sl := ([2] ++ ([3] ++ []))) (by decide) (fun _ _ _ _ _ => (dg_tup (by rfl) (dgs_cons (dg_name 2 (pg_name sc_si.nd rfl (by first | exact .inl rfl | exact .inr rfl))) (dgs_cons (dg_name 3 (pg_name sc_si.nd rfl (by first | exact .inl rfl | exact .inr rfl))) dgs_nil)))) (fun _ _ _ _ _ => (dts_one (dt_bool (dw_and (dt_cmp (opD_eq hr) mono_eq (dr_of (de_ix (dr_var 3 (pv 3)) (dr_of de_int))) (dr_of de_str) (by rfl)) (dw_and1 (dt_cmp (opD_eq hr) mono_eq (dr_of (de_ix (dr_var 3 (pv 3)) (dr_of de_int))) (dr_var 1 (pv 1)) (by rfl))))))) (fun _ _ _ _ _ => (de_var 2 (pv 2)))))))))
theorem mono_si (t : Tx a K mg base T) (w : World) (s : Shared) {A : Around} (hr : Room (14 + 1) A) : Mono (c_si a) := mono_cOf (dd_si (P := PySem.Challenge.pw_museum_k17_a_register_and_its_deeds) (w := w) t A [] s (fun _ => none) (fun _ _ _ => False) (hr.deeper _)).mono
theorem ok_si (t : Tx a K mg base T) : FnOk P w K mg base (L2.CX P w) (14 + 1) a.f_si a.d_si ["self", "room"] (spD T K 2 (c_si a)) := fn_okDM t.F_si sc_si fun A outer s H E hr => dd_si t A outer s H E hr
def u_lt (a : Ad) : SW :=
 (sRet (w1 fTuple (wLc (wItT (wUnp (wMethR 1 0 (c_st a) wpNil))) (gTupD 2 (gConsD (gNameD 2) (gConsD (gNameD 3) gNilD))) (wAnd (wT (w2 (fEq false) (w2 fIx (wRd 3) (wC (.int 1))) (wC (.str "lent")))) (wT (w2 (fEq false) (w2 fIx (wRd 3) (wC (.int 2))) (wRd 1)))) (wVar 2) [2, 3])))
def c_lt (a : Ad) : PW := cOf N_lt (u_lt a)
theorem dd_lt (t : Tx a K mg base T) (A : Around) (outer : List Env) (s : Shared) (H : Hp) (E : XK) (hr : Room 14 (A.deeper (envOfC "Register.lent_to" (defScope s_lt) s.heap.objs.size a.f_lt (.ref a.c_lt)))) :
  DSs T (cxOf (L2.CX P w) P w K mg base N_lt "Register.lent_to" (defScope s_lt) a.f_lt (.ref a.c_lt) A outer s H E) (fun cls d _ H => E cls d H) (defBody s_lt) (u_lt a) :=
 (dss_one (ds_ret (de_callTy cd_tuple mono_tuple (by rfl) t.m_tuple bt_tuple (dr_of (de_fresh (df_lc (by rfl) sc_lt.nd (di_tup (de_unp (de_methR0 t.R t.me_st (fun _ _ _ _ => by rfl) (ok_st t) (mono_st t w s (hr.mono (by decide))) (hr.mono (by decide)) (bi_st t) (takes_of rfl rfl rfl rfl) (pv 0) (by rfl)))) (blk_by (own := [("thing", 2), ("row", 3)]) (by rfl)) (sl := ([2] ++ ([3] ++ []))) (by decide) (fun _ _ _ _ _ => (dg_tup (by rfl) (dgs_cons (dg_name 2 (pg_name sc_lt.nd rfl (by first | exact .inl rfl | exact .inr rfl))) (dgs_cons (dg_name 3 (pg_name sc_lt.nd rfl (by first | exact .inl rfl | exact .inr rfl))) dgs_nil)))) (fun _ _ _ _ _ => (dts_one (dt_bool (dw_and (dt_cmp (opD_eq hr) mono_eq (dr_of (de_ix (dr_var 3 (pv 3)) (dr_of de_int))) (dr_of de_str) (by rfl)) (dw_and1 (dt_cmp (opD_eq hr) mono_eq (dr_of (de_ix (dr_var 3 (pv 3)) (dr_of de_int))) (dr_var 1 (pv 1)) (by rfl))))))) (fun _ _ _ _ _ => (de_var 2 (pv 2)))))))))
theorem mono_lt (t : Tx a K mg base T) (w : World) (s : Shared) {A : Around} (hr : Room (14 + 1) A) : Mono (c_lt a) := mono_cOf (dd_lt (P := PySem.Challenge.pw_museum_k17_a_register_and_its_deeds) (w := w) t A [] s (fun _ => none) (fun _ _ _ => False) (hr.deeper _)).mono
theorem ok_lt (t : Tx a K mg base T) : FnOk P w K mg base (L2.CX P w) (14 + 1) a.f_lt a.d_lt ["self", "house"] (spD T K 2 (c_lt a)) := fn_okDM t.F_lt sc_lt fun A outer s H E hr => dd_lt t A outer s H E hr
def u_of (a : Ad) : SW :=
 (sSeq (sIf (wThIn true 0 1) (sRaise a.x_BadDeed) sNil)
 (sSeq (sOwn 2 (wLc (wItT (w2 fIx (wThIx 0 1) (wC (.int 3)))) (gTupD 2 (gConsD (gNameD 3) (gConsD (gNameD 4) gNilD))) wYes (wVar 3) [3, 4]))
 (sFrz 2 (sRet (wTup (wCons (wCntD (wVar 2) (wC (.str "shown"))) (wCons (wCntD (wVar 2) (wC (.str "lent"))) wNil)))))))
def c_of (a : Ad) : PW := cOf N_of (u_of a)
theorem dd_of (t : Tx a K mg base T) (A : Around) (outer : List Env) (s : Shared) (H : Hp) (E : XK) (hr : Room 12 (A.deeper (envOfC "Register.often" (defScope s_of) s.heap.objs.size a.f_of (.ref a.c_of)))) :
  DSs T (cxOf (L2.CX P w) P w K mg base N_of "Register.often" (defScope s_of) a.f_of (.ref a.c_of) A outer s H E) (fun cls d _ H => E cls d H) (defBody s_of) (u_of a) :=
 (dss_cons (ds_if (dt_thnin t.R hr (pv 0) (by rfl) (pv 1))
 (dss_one (ds_raise rfl (takes_of rfl rfl rfl rfl) (pmk_own PySem.F.excBase_ValueError t.xe_BadDeed t.x_BadDeed.g t.x_BadDeed.kp (raises_own t.x_BadDeed.sub t.x_BadDeed.ty) rfl))) dss_nil)
 (dss_cons (ds_ownLc (i := 2) rfl sc_of.nd rfl rfl rfl (di_tup (de_ix (dr_of (de_thix t.R hr (pv 0) (by rfl) (pv 1) (fun _ _ => rfl))) (dr_of de_int))) (blk_by (own := [("state", 3), ("place", 4)]) (by rfl)) (sl := ([3] ++ ([4] ++ []))) (by decide) (fun _ _ _ _ _ => (dg_tup (by rfl) (dgs_cons (dg_name 3 (pg_name sc_of.nd rfl (by first | exact .inl rfl | exact .inr rfl))) (dgs_cons (dg_name 4 (pg_name sc_of.nd rfl (by first | exact .inl rfl | exact .inr rfl))) dgs_nil)))) (fun _ _ _ _ _ => dts_nil) (fun _ _ _ _ _ => (de_var 3 (pv 3))))
 (dss_frz 2 (dss_one (ds_ret (de_tup (da_cons (de_countD hr (de_var 2 (pv 2)) de_str) (da_cons (de_countD hr (de_var 2 (pv 2)) de_str) da_nil))))))))
theorem mono_of (t : Tx a K mg base T) (w : World) (s : Shared) {A : Around} (hr : Room (12 + 1) A) : Mono (c_of a) := mono_cOf (dd_of (P := PySem.Challenge.pw_museum_k17_a_register_and_its_deeds) (w := w) t A [] s (fun _ => none) (fun _ _ _ => False) (hr.deeper _)).mono
theorem ok_of (t : Tx a K mg base T) : FnOk P w K mg base (L2.CX P w) (12 + 1) a.f_of a.d_of ["self", "thing"] (spD T K 2 (c_of a)) := fn_okDM t.F_of sc_of fun A outer s H E hr => dd_of t A outer s H E hr
def u_sh (a : Ad) : SW :=
 (sSeq (sIf (wOr (wNot (wT (wCh (fC fun i j => decide (i ≤ j)) (fC fun i j => decide (i < j)) (wC (.int 0)) (wVar 2) (w1 fLen (wRooms 0))))) (wT (w2 (fC fun i j => decide (j ≤ i)) (w1 fLen (wMethR 2 0 (c_si a) (wpSh (wVar 2) wpNil))) (w2 fIx (wRooms 0) (wRd 2))))) (sRaise a.x_BadDeed) sNil)
 (sEx (wMethR 5 0 (c_go a) (wpSh (wVar 1) (wpSh (wTup (wCons (wC (.str "store")) wNil)) (wpSh (wC (.str "shown")) (wpSh (wVar 2) wpNil)))))))
def c_sh (a : Ad) : PW := cOf N_sh (u_sh a)
theorem dd_sh (t : Tx a K mg base T) (A : Around) (outer : List Env) (s : Shared) (H : Hp) (E : XK) (hr : Room 22 (A.deeper (envOfC "Register.show" (defScope s_sh) s.heap.objs.size a.f_sh (.ref a.c_sh)))) :
  DSs T (cxOf (L2.CX P w) P w K mg base N_sh "Register.show" (defScope s_sh) a.f_sh (.ref a.c_sh) A outer s H E) (fun cls d _ H => E cls d H) (defBody s_sh) (u_sh a) :=
 (dss_cons (ds_if (dt_bool (dw_or (dt_not (dt_chain opD_leI opD_ltI mono_fC mono_fC de_int (de_var 2 (pv 2)) (de_callB cd_len mono_len (by rfl) t.m_len bt_len (dr_of (de_rooms t.R (pv 0) (by rfl)))))) (dw_or1 (dt_cmp opD_geI mono_fC (dr_of (de_callB cd_len mono_len (by rfl) t.m_len bt_len (dr_of (de_methR t.R t.me_si (fun _ _ _ _ => by rfl) (ok_si t) (mono_si t w s (hr.mono (by decide))) (hr.mono (by decide)) (bi_si t) (takes_of rfl rfl rfl rfl) (pv 0) (dp_sh (de_var 2 (pv 2)) dp_nil) (by rfl) (by rfl) (by rfl))))) (dr_of (de_ix (dr_of (de_rooms t.R (pv 0) (by rfl))) (dr_var 2 (pv 2)))) (by rfl)))))
 (dss_one (ds_raise rfl (takes_of rfl rfl rfl rfl) (pmk_own PySem.F.excBase_ValueError t.xe_BadDeed t.x_BadDeed.g t.x_BadDeed.kp (raises_own t.x_BadDeed.sub t.x_BadDeed.ty) rfl))) dss_nil)
 (dss_one (ds_ex (de_methR t.R t.me_go (fun _ _ _ _ => by rfl) (ok_go t) (mono_go t w s (hr.mono (by decide))) (hr.mono (by decide)) (bi_go t) (takes_of rfl rfl rfl rfl) (pv 0) (dp_sh (de_var 1 (pv 1)) (dp_sh (de_tup (da_cons de_str da_nil)) (dp_sh de_str (dp_sh (de_var 2 (pv 2)) dp_nil)))) (by rfl) (by rfl) (by rfl)))))
theorem mono_sh (t : Tx a K mg base T) (w : World) (s : Shared) {A : Around} (hr : Room (22 + 1) A) : Mono (c_sh a) := mono_cOf (dd_sh (P := PySem.Challenge.pw_museum_k17_a_register_and_its_deeds) (w := w) t A [] s (fun _ => none) (fun _ _ _ => False) (hr.deeper _)).mono
theorem ok_sh (t : Tx a K mg base T) : FnOk P w K mg base (L2.CX P w) (22 + 1) a.f_sh a.d_sh ["self", "thing", "room"] (spD T K 3 (c_sh a)) := fn_okDM t.F_sh sc_sh fun A outer s H E hr => dd_sh t A outer s H E hr
def uG_sh (a : Ad) : SW :=
 (sSeq (sIf (wOr (wNot (wT (wCh (fC fun i j => decide (i ≤ j)) (fC fun i j => decide (i < j)) (wC (.int 0)) (wVar 2) (w1 fLen (wLend 0 (wRooms 0)))))) (wT (w2 (fC fun i j => decide (j ≤ i)) (w1 fLen (wLend 0 (wMethR 2 0 (c_si a) (wpSh (wVar 2) wpNil)))) (w2 fIx (wLend 0 (wRooms 0)) (wRd 2))))) (sRaise a.x_BadDeed) sNil)
 (sMethG 5 0 (cG_go a) (wpSh (wVar 1) (wpSh (wTup (wCons (wC (.str "store")) wNil)) (wpSh (wC (.str "shown")) (wpSh (wVar 2) wpNil))))))
def cG_sh (a : Ad) : CG := cOfG N_sh (uG_sh a)
theorem ddG_sh (t : Tx a K mg base T) (A : Around) (outer : List Env) (s : Shared) (H : Hp) (E : XK) (hr : Room 22 (A.deeper (envOfC "Register.show" (defScope s_sh) s.heap.objs.size a.f_sh (.ref a.c_sh)))) :
  DSs T (cxOf (L2.CX P w) P w K mg base N_sh "Register.show" (defScope s_sh) a.f_sh (.ref a.c_sh) A outer s H E) (fun cls d _ H => E cls d H) (defBody s_sh) (uG_sh a) :=
 (dss_cons (ds_if (dt_bool (dw_or (dt_not (dt_chain opD_leI opD_ltI mono_fC mono_fC de_int (de_var 2 (pv 2)) (de_callB cd_len mono_len (by rfl) t.m_len bt_len (dr_of (de_lend (de_rooms t.R (pv 0) (by rfl))))))) (dw_or1 (dt_cmp opD_geI mono_fC (dr_of (de_callB cd_len mono_len (by rfl) t.m_len bt_len (dr_of (de_lend (de_methR t.R t.me_si (fun _ _ _ _ => by rfl) (ok_si t) (mono_si t w s (hr.mono (by decide))) (hr.mono (by decide)) (bi_si t) (takes_of rfl rfl rfl rfl) (pv 0) (dp_sh (de_var 2 (pv 2)) dp_nil) (by rfl) (by rfl) (by rfl)))))) (dr_of (de_ix (dr_of (de_lend (de_rooms t.R (pv 0) (by rfl)))) (dr_var 2 (pv 2)))) (by rfl)))))
 (dss_one (ds_raise rfl (takes_of rfl rfl rfl rfl) (pmk_own PySem.F.excBase_ValueError t.xe_BadDeed t.x_BadDeed.g t.x_BadDeed.kp (raises_own t.x_BadDeed.sub t.x_BadDeed.ty) rfl))) dss_nil)
 (dss_one (ds_methG t.R t.me_go (fun _ _ _ _ => by rfl) (okG_go t) (monoG_go t w s (hr.mono (by decide))) (hr.mono (by decide)) (bi_go t) (takes_of rfl rfl rfl rfl) (pv 0) (dp_sh (de_var 1 (pv 1)) (dp_sh (de_tup (da_cons de_str da_nil)) (dp_sh de_str (dp_sh (de_var 2 (pv 2)) dp_nil)))) (by rfl) (by rfl) (by rfl))))
theorem monoG_sh (t : Tx a K mg base T) (w : World) (s : Shared) {A : Around} (hr : Room (22 + 1) A) : MonoG (cG_sh a) := mono_cOfG (ddG_sh (P := PySem.Challenge.pw_museum_k17_a_register_and_its_deeds) (w := w) t A [] s (fun _ => none) (fun _ _ _ => False) (hr.deeper _)).mono
theorem okG_sh (t : Tx a K mg base T) : FnOk P w K mg base (L2.CX P w) (22 + 1) a.f_sh a.d_sh ["self", "thing", "room"] (spG T K 3 (cG_sh a)) := fn_okG t.F_sh sc_sh (List.cons_ne_nil _ _) fun A outer s H E hr => ddG_sh t A outer s H E hr
def u_le (a : Ad) : SW :=
 (sSeq (sIf (wT (w2 (fEq false) (wRd 2) (wC (.str "")))) (sRaise a.x_BadDeed) sNil)
 (sEx (wMethR 5 0 (c_go a) (wpSh (wVar 1) (wpSh (wTup (wCons (wC (.str "store")) wNil)) (wpSh (wC (.str "lent")) (wpSh (wVar 2) wpNil)))))))
def c_le (a : Ad) : PW := cOf N_le (u_le a)
theorem dd_le (t : Tx a K mg base T) (A : Around) (outer : List Env) (s : Shared) (H : Hp) (E : XK) (hr : Room 22 (A.deeper (envOfC "Register.lend" (defScope s_le) s.heap.objs.size a.f_le (.ref a.c_le)))) :
  DSs T (cxOf (L2.CX P w) P w K mg base N_le "Register.lend" (defScope s_le) a.f_le (.ref a.c_le) A outer s H E) (fun cls d _ H => E cls d H) (defBody s_le) (u_le a) :=
 (dss_cons (ds_if (dt_cmp (opD_eq hr) mono_eq (dr_var 2 (pv 2)) (dr_of de_str) (by rfl))
 (dss_one (ds_raise rfl (takes_of rfl rfl rfl rfl) (pmk_own PySem.F.excBase_ValueError t.xe_BadDeed t.x_BadDeed.g t.x_BadDeed.kp (raises_own t.x_BadDeed.sub t.x_BadDeed.ty) rfl))) dss_nil)
 (dss_one (ds_ex (de_methR t.R t.me_go (fun _ _ _ _ => by rfl) (ok_go t) (mono_go t w s (hr.mono (by decide))) (hr.mono (by decide)) (bi_go t) (takes_of rfl rfl rfl rfl) (pv 0) (dp_sh (de_var 1 (pv 1)) (dp_sh (de_tup (da_cons de_str da_nil)) (dp_sh de_str (dp_sh (de_var 2 (pv 2)) dp_nil)))) (by rfl) (by rfl) (by rfl)))))
theorem mono_le (t : Tx a K mg base T) (w : World) (s : Shared) {A : Around} (hr : Room (22 + 1) A) : Mono (c_le a) := mono_cOf (dd_le (P := PySem.Challenge.pw_museum_k17_a_register_and_its_deeds) (w := w) t A [] s (fun _ => none) (fun _ _ _ => False) (hr.deeper _)).mono
theorem ok_le (t : Tx a K mg base T) : FnOk P w K mg base (L2.CX P w) (22 + 1) a.f_le a.d_le ["self", "thing", "house"] (spD T K 3 (c_le a)) := fn_okDM t.F_le sc_le fun A outer s H E hr => dd_le t A outer s H E hr
def uG_le (a : Ad) : SW :=
 (sSeq (sIf (wT (w2 (fEq false) (wRd 2) (wC (.str "")))) (sRaise a.x_BadDeed) sNil)
 (sMethG 5 0 (cG_go a) (wpSh (wVar 1) (wpSh (wTup (wCons (wC (.str "store")) wNil)) (wpSh (wC (.str "lent")) (wpSh (wVar 2) wpNil))))))
def cG_le (a : Ad) : CG := cOfG N_le (uG_le a)
theorem ddG_le (t : Tx a K mg base T) (A : Around) (outer : List Env) (s : Shared) (H : Hp) (E : XK) (hr : Room 22 (A.deeper (envOfC "Register.lend" (defScope s_le) s.heap.objs.size a.f_le (.ref a.c_le)))) :
  DSs T (cxOf (L2.CX P w) P w K mg base N_le "Register.lend" (defScope s_le) a.f_le (.ref a.c_le) A outer s H E) (fun cls d _ H => E cls d H) (defBody s_le) (uG_le a) :=
 (dss_cons (ds_if (dt_cmp (opD_eq hr) mono_eq (dr_var 2 (pv 2)) (dr_of de_str) (by rfl))
 (dss_one (ds_raise rfl (takes_of rfl rfl rfl rfl) (pmk_own PySem.F.excBase_ValueError t.xe_BadDeed t.x_BadDeed.g t.x_BadDeed.kp (raises_own t.x_BadDeed.sub t.x_BadDeed.ty) rfl))) dss_nil)
 (dss_one (ds_methG t.R t.me_go (fun _ _ _ _ => by rfl) (okG_go t) (monoG_go t w s (hr.mono (by decide))) (hr.mono (by decide)) (bi_go t) (takes_of rfl rfl rfl rfl) (pv 0) (dp_sh (de_var 1 (pv 1)) (dp_sh (de_tup (da_cons de_str da_nil)) (dp_sh de_str (dp_sh (de_var 2 (pv 2)) dp_nil)))) (by rfl) (by rfl) (by rfl))))
theorem monoG_le (t : Tx a K mg base T) (w : World) (s : Shared) {A : Around} (hr : Room (22 + 1) A) : MonoG (cG_le a) := mono_cOfG (ddG_le (P := PySem.Challenge.pw_museum_k17_a_register_and_its_deeds) (w := w) t A [] s (fun _ => none) (fun _ _ _ => False) (hr.deeper _)).mono
theorem okG_le (t : Tx a K mg base T) : FnOk P w K mg base (L2.CX P w) (22 + 1) a.f_le a.d_le ["self", "thing", "house"] (spG T K 3 (cG_le a)) := fn_okG t.F_le sc_le (List.cons_ne_nil _ _) fun A outer s H E hr => ddG_le t A outer s H E hr
def u_lg (a : Ad) : SW :=
 (sEx (wMethR 5 0 (c_go a) (wpSh (wVar 1) (wpSh (wTup (wCons (wC (.str "store")) wNil)) (wpSh (wC (.str "gone")) (wpSh (wC .none) wpNil))))))
def c_lg (a : Ad) : PW := cOf N_lg (u_lg a)
theorem dd_lg (t : Tx a K mg base T) (A : Around) (outer : List Env) (s : Shared) (H : Hp) (E : XK) (hr : Room 22 (A.deeper (envOfC "Register.let_go" (defScope s_lg) s.heap.objs.size a.f_lg (.ref a.c_lg)))) :
  DSs T (cxOf (L2.CX P w) P w K mg base N_lg "Register.let_go" (defScope s_lg) a.f_lg (.ref a.c_lg) A outer s H E) (fun cls d _ H => E cls d H) (defBody s_lg) (u_lg a) :=
 (dss_one (ds_ex (de_methR t.R t.me_go (fun _ _ _ _ => by rfl) (ok_go t) (mono_go t w s (hr.mono (by decide))) (hr.mono (by decide)) (bi_go t) (takes_of rfl rfl rfl rfl) (pv 0) (dp_sh (de_var 1 (pv 1)) (dp_sh (de_tup (da_cons de_str da_nil)) (dp_sh de_str (dp_sh de_non dp_nil)))) (by rfl) (by rfl) (by rfl))))
theorem mono_lg (t : Tx a K mg base T) (w : World) (s : Shared) {A : Around} (hr : Room (22 + 1) A) : Mono (c_lg a) := mono_cOf (dd_lg (P := PySem.Challenge.pw_museum_k17_a_register_and_its_deeds) (w := w) t A [] s (fun _ => none) (fun _ _ _ => False) (hr.deeper _)).mono
theorem ok_lg (t : Tx a K mg base T) : FnOk P w K mg base (L2.CX P w) (22 + 1) a.f_lg a.d_lg ["self", "thing"] (spD T K 2 (c_lg a)) := fn_okDM t.F_lg sc_lg fun A outer s H E hr => dd_lg t A outer s H E hr
def uG_lg (a : Ad) : SW :=
 (sMethG 5 0 (cG_go a) (wpSh (wVar 1) (wpSh (wTup (wCons (wC (.str "store")) wNil)) (wpSh (wC (.str "gone")) (wpSh (wC .none) wpNil)))))
def cG_lg (a : Ad) : CG := cOfG N_lg (uG_lg a)
theorem ddG_lg (t : Tx a K mg base T) (A : Around) (outer : List Env) (s : Shared) (H : Hp) (E : XK) (hr : Room 22 (A.deeper (envOfC "Register.let_go" (defScope s_lg) s.heap.objs.size a.f_lg (.ref a.c_lg)))) :
  DSs T (cxOf (L2.CX P w) P w K mg base N_lg "Register.let_go" (defScope s_lg) a.f_lg (.ref a.c_lg) A outer s H E) (fun cls d _ H => E cls d H) (defBody s_lg) (uG_lg a) :=
 (dss_one (ds_methG t.R t.me_go (fun _ _ _ _ => by rfl) (okG_go t) (monoG_go t w s (hr.mono (by decide))) (hr.mono (by decide)) (bi_go t) (takes_of rfl rfl rfl rfl) (pv 0) (dp_sh (de_var 1 (pv 1)) (dp_sh (de_tup (da_cons de_str da_nil)) (dp_sh de_str (dp_sh de_non dp_nil)))) (by rfl) (by rfl) (by rfl)))
theorem monoG_lg (t : Tx a K mg base T) (w : World) (s : Shared) {A : Around} (hr : Room (22 + 1) A) : MonoG (cG_lg a) := mono_cOfG (ddG_lg (P := PySem.Challenge.pw_museum_k17_a_register_and_its_deeds) (w := w) t A [] s (fun _ => none) (fun _ _ _ => False) (hr.deeper _)).mono
theorem okG_lg (t : Tx a K mg base T) : FnOk P w K mg base (L2.CX P w) (22 + 1) a.f_lg a.d_lg ["self", "thing"] (spG T K 2 (cG_lg a)) := fn_okG t.F_lg sc_lg (List.cons_ne_nil _ _) fun A outer s H E hr => ddG_lg t A outer s H E hr
def u_rn (a : Ad) : SW :=
 (sSeq (sIf (wOr (wThIn true 0 1) (wOr (wT (w2 (fEq false) (w2 fIx (wThIx 0 1) (wC (.int 1))) (wC (.str "gone")))) (wT (w2 (fIn false) (wRd 2) (wTup (wCons (wC (.str "")) (wCons (w2 fIx (wThIx 0 1) (wC (.int 0))) wNil))))))) (sRaise a.x_BadDeed) sNil)
 (fun _ _ => False))
def c_rn (a : Ad) : PW := cOf N_rn (u_rn a)
theorem dd_rn (t : Tx a K mg base T) (A : Around) (outer : List Env) (s : Shared) (H : Hp) (E : XK) (hr : Room 18 (A.deeper (envOfC "Register.rename" (defScope s_rn) s.heap.objs.size a.f_rn (.ref a.c_rn)))) :
  DSs T (cxOf (L2.CX P w) P w K mg base N_rn "Register.rename" (defScope s_rn) a.f_rn (.ref a.c_rn) A outer s H E) (fun cls d _ H => E cls d H) (defBody s_rn) (u_rn a) :=
 (dss_cons (ds_if (dt_bool (dw_or (dt_thnin t.R hr (pv 0) (by rfl) (pv 1)) (dw_or (dt_cmp (opD_eq hr) mono_eq (dr_of (de_ix (dr_of (de_thix t.R hr (pv 0) (by rfl) (pv 1) (fun _ _ => rfl))) (dr_of de_int))) (dr_of de_str) (by rfl)) (dw_or1 (dt_cmp (opD_in hr) mono_in (dr_var 2 (pv 2)) (dr_of (de_tup (da_cons de_str (da_cons (de_ix (dr_of (de_thix t.R hr (pv 0) (by rfl) (pv 1) (fun _ _ => rfl))) (dr_of de_int)) da_nil)))) (by rfl))))))
 (dss_one (ds_raise rfl (takes_of rfl rfl rfl rfl) (pmk_own PySem.F.excBase_ValueError t.xe_BadDeed t.x_BadDeed.g t.x_BadDeed.kp (raises_own t.x_BadDeed.sub t.x_BadDeed.ty) rfl))) dss_nil)
 dss_off)
theorem mono_rn (t : Tx a K mg base T) (w : World) (s : Shared) {A : Around} (hr : Room (18 + 1) A) : Mono (c_rn a) := mono_cOf (dd_rn (P := PySem.Challenge.pw_museum_k17_a_register_and_its_deeds) (w := w) t A [] s (fun _ => none) (fun _ _ _ => False) (hr.deeper _)).mono
theorem ok_rn (t : Tx a K mg base T) : FnOk P w K mg base (L2.CX P w) (18 + 1) a.f_rn a.d_rn ["self", "thing", "name"] (spD T K 3 (c_rn a)) := fn_okDM t.F_rn sc_rn fun A outer s H E hr => dd_rn t A outer s H E hr
def uG_rn (a : Ad) : SW :=
 (sSeq (sIf (wOr (wLendB 0 (wThIn true 0 1)) (wOr (wT (w2 (fEq false) (w2 fIx (wLend 0 (wThIx 0 1)) (wC (.int 1))) (wC (.str "gone")))) (wT (w2 (fIn false) (wRd 2) (wTup (wCons (wC (.str "")) (wCons (w2 fIx (wLend 0 (wThIx 0 1)) (wC (.int 0))) wNil))))))) (sRaise a.x_BadDeed) sNil)
 (sMethG 3 0 (cG_no a) (wpSh (wVar 1) (wpSh (w2 fAdd (wTup (wCons (wVar 2) wNil)) (wSl fSlS (wLend 0 (wThIx 0 1)) (wSo (wC (.int 1))) wNo)) wpNil))))
def cG_rn (a : Ad) : CG := cOfG N_rn (uG_rn a)
theorem ddG_rn (t : Tx a K mg base T) (A : Around) (outer : List Env) (s : Shared) (H : Hp) (E : XK) (hr : Room 18 (A.deeper (envOfC "Register.rename" (defScope s_rn) s.heap.objs.size a.f_rn (.ref a.c_rn)))) :
  DSs T (cxOf (L2.CX P w) P w K mg base N_rn "Register.rename" (defScope s_rn) a.f_rn (.ref a.c_rn) A outer s H E) (fun cls d _ H => E cls d H) (defBody s_rn) (uG_rn a) :=
 (dss_cons (ds_if (dt_bool (dw_or (dt_lend (dt_thnin t.R hr (pv 0) (by rfl) (pv 1))) (dw_or (dt_cmp (opD_eq hr) mono_eq (dr_of (de_ix (dr_of (de_lend (de_thix t.R hr (pv 0) (by rfl) (pv 1) (fun _ _ => rfl)))) (dr_of de_int))) (dr_of de_str) (by rfl)) (dw_or1 (dt_cmp (opD_in hr) mono_in (dr_var 2 (pv 2)) (dr_of (de_tup (da_cons de_str (da_cons (de_ix (dr_of (de_lend (de_thix t.R hr (pv 0) (by rfl) (pv 1) (fun _ _ => rfl)))) (dr_of de_int)) da_nil)))) (by rfl))))))
 (dss_one (ds_raise rfl (takes_of rfl rfl rfl rfl) (pmk_own PySem.F.excBase_ValueError t.xe_BadDeed t.x_BadDeed.g t.x_BadDeed.kp (raises_own t.x_BadDeed.sub t.x_BadDeed.ty) rfl))) dss_nil)
 (dss_one (ds_methG t.R t.me_no (fun _ _ _ _ => by rfl) (okG_no t) (monoG_no t w s (hr.mono (by decide))) (hr.mono (by decide)) (bi_no t) (takes_of rfl rfl rfl rfl) (pv 0) (dp_sh (de_var 1 (pv 1)) (dp_sh (de_op opD_add mono_add (dr_of (de_tup (da_cons (de_var 2 (pv 2)) da_nil))) (dr_of (de_sl (dr_of (de_lend (de_thix t.R hr (pv 0) (by rfl) (pv 1) (fun _ _ => rfl)))) (do_some de_int) do_none))) dp_nil)) (by rfl) (by rfl) (by rfl))))
theorem monoG_rn (t : Tx a K mg base T) (w : World) (s : Shared) {A : Around} (hr : Room (18 + 1) A) : MonoG (cG_rn a) := mono_cOfG (ddG_rn (P := PySem.Challenge.pw_museum_k17_a_register_and_its_deeds) (w := w) t A [] s (fun _ => none) (fun _ _ _ => False) (hr.deeper _)).mono
theorem okG_rn (t : Tx a K mg base T) : FnOk P w K mg base (L2.CX P w) (18 + 1) a.f_rn a.d_rn ["self", "thing", "name"] (spG T K 3 (cG_rn a)) := fn_okG t.F_rn sc_rn (List.cons_ne_nil _ _) fun A outer s H E hr => ddG_rn t A outer s H E hr
def u_un (a : Ad) : SW :=
 (sSeq (sIf (wLNil .deeds 0) (sRaise a.x_BadDeed) sNil)
 (fun _ _ => False))
def c_un (a : Ad) : PW := cOf N_un (u_un a)
theorem dd_un (t : Tx a K mg base T) (A : Around) (outer : List Env) (s : Shared) (H : Hp) (E : XK) (hr : Room 12 (A.deeper (envOfC "Register.undo" (defScope s_un) s.heap.objs.size a.f_un (.ref a.c_un)))) :
  DSs T (cxOf (L2.CX P w) P w K mg base N_un "Register.undo" (defScope s_un) a.f_un (.ref a.c_un) A outer s H E) (fun cls d _ H => E cls d H) (defBody s_un) (u_un a) :=
 (dss_cons (ds_if (dt_lnil .deeds t.R hr (pv 0) (by rfl))
 (dss_one (ds_raise rfl (takes_of rfl rfl rfl rfl) (pmk_own PySem.F.excBase_ValueError t.xe_BadDeed t.x_BadDeed.g t.x_BadDeed.kp (raises_own t.x_BadDeed.sub t.x_BadDeed.ty) rfl))) dss_nil)
 dss_off)
theorem mono_un (t : Tx a K mg base T) (w : World) (s : Shared) {A : Around} (hr : Room (12 + 1) A) : Mono (c_un a) := mono_cOf (dd_un (P := PySem.Challenge.pw_museum_k17_a_register_and_its_deeds) (w := w) t A [] s (fun _ => none) (fun _ _ _ => False) (hr.deeper _)).mono
theorem ok_un (t : Tx a K mg base T) : FnOk P w K mg base (L2.CX P w) (12 + 1) a.f_un a.d_un ["self"] (spD T K 1 (c_un a)) := fn_okDM t.F_un sc_un fun A outer s H E hr => dd_un t A outer s H E hr
def uG_un (a : Ad) : SW :=
 (sSeq (sIf (wLendB 0 (wLNil .deeds 0)) (sRaise a.x_BadDeed) sNil)
 (sSeq (sLPop .deeds 1 0)
 (sSeq (sLApp .undone 0 (wVar 1))
 (sThSet 0 (w2 fIx (wRd 1) (wC (.int 0)))))))
def cG_un (a : Ad) : CG := cOfG N_un (uG_un a)
theorem ddG_un (t : Tx a K mg base T) (A : Around) (outer : List Env) (s : Shared) (H : Hp) (E : XK) (hr : Room 12 (A.deeper (envOfC "Register.undo" (defScope s_un) s.heap.objs.size a.f_un (.ref a.c_un)))) :
  DSs T (cxOf (L2.CX P w) P w K mg base N_un "Register.undo" (defScope s_un) a.f_un (.ref a.c_un) A outer s H E) (fun cls d _ H => E cls d H) (defBody s_un) (uG_un a) :=
 (dss_cons (ds_if (dt_lend (dt_lnil .deeds t.R hr (pv 0) (by rfl)))
 (dss_one (ds_raise rfl (takes_of rfl rfl rfl rfl) (pmk_own PySem.F.excBase_ValueError t.xe_BadDeed t.x_BadDeed.g t.x_BadDeed.kp (raises_own t.x_BadDeed.sub t.x_BadDeed.ty) rfl))) dss_nil)
 (dss_cons (ds_lpop (m := 1) .deeds t.R sc_un.nd rfl (by first | exact .inl rfl | exact .inr rfl) (pv 0) (by rfl))
 (dss_cons (ds_lapp .undone t.R (pv 0) (by rfl) (de_var 1 (pv 1)))
 (dss_one (ds_thset t.R rfl hr (by rfl) t.m_dict (pv 0) (de_ix (dr_var 1 (pv 1)) (dr_of de_int)))))))
theorem monoG_un (t : Tx a K mg base T) (w : World) (s : Shared) {A : Around} (hr : Room (12 + 1) A) : MonoG (cG_un a) := mono_cOfG (ddG_un (P := PySem.Challenge.pw_museum_k17_a_register_and_its_deeds) (w := w) t A [] s (fun _ => none) (fun _ _ _ => False) (hr.deeper _)).mono
theorem okG_un (t : Tx a K mg base T) : FnOk P w K mg base (L2.CX P w) (12 + 1) a.f_un a.d_un ["self"] (spG T K 1 (cG_un a)) := fn_okG t.F_un sc_un (List.cons_ne_nil _ _) fun A outer s H E hr => ddG_un t A outer s H E hr
def u_re (a : Ad) : SW :=
 (sSeq (sIf (wLNil .undone 0) (sRaise a.x_BadDeed) sNil)
 (fun _ _ => False))
def c_re (a : Ad) : PW := cOf N_re (u_re a)
theorem dd_re (t : Tx a K mg base T) (A : Around) (outer : List Env) (s : Shared) (H : Hp) (E : XK) (hr : Room 12 (A.deeper (envOfC "Register.redo" (defScope s_re) s.heap.objs.size a.f_re (.ref a.c_re)))) :
  DSs T (cxOf (L2.CX P w) P w K mg base N_re "Register.redo" (defScope s_re) a.f_re (.ref a.c_re) A outer s H E) (fun cls d _ H => E cls d H) (defBody s_re) (u_re a) :=
 (dss_cons (ds_if (dt_lnil .undone t.R hr (pv 0) (by rfl))
 (dss_one (ds_raise rfl (takes_of rfl rfl rfl rfl) (pmk_own PySem.F.excBase_ValueError t.xe_BadDeed t.x_BadDeed.g t.x_BadDeed.kp (raises_own t.x_BadDeed.sub t.x_BadDeed.ty) rfl))) dss_nil)
 dss_off)
theorem mono_re (t : Tx a K mg base T) (w : World) (s : Shared) {A : Around} (hr : Room (12 + 1) A) : Mono (c_re a) := mono_cOf (dd_re (P := PySem.Challenge.pw_museum_k17_a_register_and_its_deeds) (w := w) t A [] s (fun _ => none) (fun _ _ _ => False) (hr.deeper _)).mono
theorem ok_re (t : Tx a K mg base T) : FnOk P w K mg base (L2.CX P w) (12 + 1) a.f_re a.d_re ["self"] (spD T K 1 (c_re a)) := fn_okDM t.F_re sc_re fun A outer s H E hr => dd_re t A outer s H E hr
def uG_re (a : Ad) : SW :=
 (sSeq (sIf (wLendB 0 (wLNil .undone 0)) (sRaise a.x_BadDeed) sNil)
 (sSeq (sLPop .undone 1 0)
 (sSeq (sLApp .deeds 0 (wVar 1))
 (sThSet 0 (w2 fIx (wRd 1) (wC (.int 1)))))))
def cG_re (a : Ad) : CG := cOfG N_re (uG_re a)
theorem ddG_re (t : Tx a K mg base T) (A : Around) (outer : List Env) (s : Shared) (H : Hp) (E : XK) (hr : Room 12 (A.deeper (envOfC "Register.redo" (defScope s_re) s.heap.objs.size a.f_re (.ref a.c_re)))) :
  DSs T (cxOf (L2.CX P w) P w K mg base N_re "Register.redo" (defScope s_re) a.f_re (.ref a.c_re) A outer s H E) (fun cls d _ H => E cls d H) (defBody s_re) (uG_re a) :=
 (dss_cons (ds_if (dt_lend (dt_lnil .undone t.R hr (pv 0) (by rfl)))
 (dss_one (ds_raise rfl (takes_of rfl rfl rfl rfl) (pmk_own PySem.F.excBase_ValueError t.xe_BadDeed t.x_BadDeed.g t.x_BadDeed.kp (raises_own t.x_BadDeed.sub t.x_BadDeed.ty) rfl))) dss_nil)
 (dss_cons (ds_lpop (m := 1) .undone t.R sc_re.nd rfl (by first | exact .inl rfl | exact .inr rfl) (pv 0) (by rfl))
 (dss_cons (ds_lapp .deeds t.R (pv 0) (by rfl) (de_var 1 (pv 1)))
 (dss_one (ds_thset t.R rfl hr (by rfl) t.m_dict (pv 0) (de_ix (dr_var 1 (pv 1)) (dr_of de_int)))))))
theorem monoG_re (t : Tx a K mg base T) (w : World) (s : Shared) {A : Around} (hr : Room (12 + 1) A) : MonoG (cG_re a) := mono_cOfG (ddG_re (P := PySem.Challenge.pw_museum_k17_a_register_and_its_deeds) (w := w) t A [] s (fun _ => none) (fun _ _ _ => False) (hr.deeper _)).mono
theorem okG_re (t : Tx a K mg base T) : FnOk P w K mg base (L2.CX P w) (12 + 1) a.f_re a.d_re ["self"] (spG T K 1 (cG_re a)) := fn_okG t.F_re sc_re (List.cons_ne_nil _ _) fun A outer s H E hr => ddG_re t A outer s H E hr
end
end M17
set_option Elab.async false
set_option linter.all false
set_option maxRecDepth 100000
set_option maxHeartbeats 4000000
namespace M17
open PySem PySem.Spec PyProof.Rows L2 PL
open LamX (lamS_by)
section
variable {P : Program} {w : World} {K : PySem.W.Frag} {mg : Str → Option Value} {base : Heap} {T : Tb} {a : Ad}
def lz0 : Expr := retB ((defBody s__law_deed).getD 3 (.Pass ⟨0, 0, 0, 0⟩))
def lz1 : Expr := retB ((defBody s__law_deed).getD 4 (.Pass ⟨0, 0, 0, 0⟩))
def lz2 : Expr := retB ((defBody s__law_deed).getD 5 (.Pass ⟨0, 0, 0, 0⟩))
def lz3 : Expr := retB ((defBody s__law_deed).getD 6 (.Pass ⟨0, 0, 0, 0⟩))
def lz4 : Expr := retB ((defBody s__law_deed).getD 7 (.Pass ⟨0, 0, 0, 0⟩))
def lz5 : Expr := retB ((defBody s__law_deed).getD 9 (.Pass ⟨0, 0, 0, 0⟩))
def lz (j : Nat) : LamD := match j with
  | 0 => lamZ lz0
  | 1 => lamZ lz1
  | 2 => lamZ lz2
  | 3 => lamZ lz3
  | 4 => lamZ lz4
  | 5 => lamZ lz5
  | _ => lamZ lz0
def lsz : List LamD := [lz 0, lz 1, lz 2, lz 3, lz 4, lz 5]
def u__law_deed (a : Ad) : SZ :=
 (zSeq (sParN [3, 4, 5, 6] (wpSh (wCall 2 (c__law_roll a) (wpDc 1 (wpSh (wC (.int 9)) wpNil))) (wpSh (wTup (wCons (wC (.int 1900)) (wCons (wC (.int 0)) (wCons (wCall 2 (c__law_roll a) (wpDc 1 (wpSh (wC (.int 3)) wpNil))) wNil)))) (wpSh (wCall 2 (c__law_roll a) (wpDc 1 (wpSh (wC (.int 3)) wpNil))) (wpSh (w2 fIx (wLst (wCons (wC (.str "")) (wCons (wC (.str "a")) (wCons (wC (.str "b")) wNil)))) (wCall 2 (c__law_roll a) (wpDc 1 (wpSh (wC (.int 3)) wpNil)))) wpNil)))))
 (zSeq (sSet 7 (wVGet (wDictI (wVar 2)) (wVar 4) (wC .none)))
 (zSeq (sSet 8 (wIf (wT (w2 fNotN (wRd 7) (wC .none))) (w2 fIx (wRd 7) (wC (.int 1))) (wC (.str ""))))
 (zIf (wT (w2 (fC fun i j => decide (i < j)) (wRd 3) (wC (.int 2))))
 (zRet 4 (wIf (wAnd (wT (w2 fIsN (wRd 7) (wC .none))) (wT (w2 (fEq true) (wRd 6) (wC (.str ""))))) (wTup (wCons (wVar 6) (wCons (wC (.str "in")) (wCons (wC .none) (wCons (wTup (wCons (wTup (wCons (wC (.str "in")) (wCons (wC .none) wNil))) wNil)) wNil))))) (wC .none)) (lz 0))
 (zIf (wT (w2 (fC fun i j => decide (i < j)) (wRd 3) (wC (.int 5))))
 (zSeq (sSet 9 (wIf (wT (w2 (fIn false) (wRd 8) (wLst (wCons (wC (.str "in")) (wCons (wC (.str "shown")) (wCons (wC (.str "lent")) wNil)))))) (wTup (wCons (w2 fIx (wRd 7) (wC (.int 0))) (wCons (wC (.str "store")) (wCons (wC .none) (wCons (w2 fAdd (w2 fIx (wRd 7) (wC (.int 3))) (wTup (wCons (wTup (wCons (wC (.str "store")) (wCons (wC .none) wNil))) wNil))) wNil))))) (wC .none)))
 (zRet 4 (wVar 9) (lz 1)))
 (zIf (wT (w2 (fEq false) (wRd 3) (wC (.int 5))))
 (zSeq (sSet 10 (w1 fLen (wLc (wItT (wUnp (wVar 2))) (gTupD 2 (gConsD (gNameD 12) (gConsD (gNameD 13) gNilD))) (wT (w2 (fEq false) (wSl fSlS (wRd 13) (wSo (wC (.int 1))) (wSo (wC (.int 3)))) (wTup (wCons (wC (.str "shown")) (wCons (wVar 5) wNil))))) (wC (.int 1)) [12, 13])))
 (zSeq (sSet 11 (wAndV (w2 (fEq false) (wRd 8) (wC (.str "store"))) (wAndV (w2 (fC fun i j => decide (i < j)) (wRd 5) (wC (.int 2))) (w2 (fC fun i j => decide (i < j)) (wRd 10) (w2 fIx (wLst (wCons (wC (.int 2)) (wCons (wC (.int 1)) wNil))) (wA fMin2 (wCons (wVar 5) (wCons (wC (.int 1)) wNil))))))))
 (zRet 4 (wIf (wT (wVar 11)) (wTup (wCons (w2 fIx (wRd 7) (wC (.int 0))) (wCons (wC (.str "shown")) (wCons (wVar 5) (wCons (w2 fAdd (w2 fIx (wRd 7) (wC (.int 3))) (wTup (wCons (wTup (wCons (wC (.str "shown")) (wCons (wVar 5) wNil))) wNil))) wNil))))) (wC .none)) (lz 2))))
 (zIf (wT (w2 (fEq false) (wRd 3) (wC (.int 6))))
 (zSeq (sSet 11 (wAndV (w2 (fEq false) (wRd 8) (wC (.str "store"))) (w2 (fEq true) (wRd 6) (wC (.str "")))))
 (zRet 4 (wIf (wT (wVar 11)) (wTup (wCons (w2 fIx (wRd 7) (wC (.int 0))) (wCons (wC (.str "lent")) (wCons (wVar 6) (wCons (w2 fAdd (w2 fIx (wRd 7) (wC (.int 3))) (wTup (wCons (wTup (wCons (wC (.str "lent")) (wCons (wVar 6) wNil))) wNil))) wNil))))) (wC .none)) (lz 3)))
 (zIf (wT (w2 (fEq false) (wRd 3) (wC (.int 7))))
 (zRet 4 (wIf (wT (w2 (fEq false) (wRd 8) (wC (.str "store")))) (wTup (wCons (w2 fIx (wRd 7) (wC (.int 0))) (wCons (wC (.str "gone")) (wCons (wC .none) (wCons (w2 fAdd (w2 fIx (wRd 7) (wC (.int 3))) (wTup (wCons (wTup (wCons (wC (.str "gone")) (wCons (wC .none) wNil))) wNil))) wNil))))) (wC .none)) (lz 4))
 (zSeq (sSet 11 (wAndV (w2 fNotN (wRd 7) (wC .none)) (wAndV (w2 (fEq true) (wRd 8) (wC (.str "gone"))) (w2 (fIn true) (wRd 6) (wLst (wCons (wC (.str "")) (wCons (w2 fIx (wRd 7) (wC (.int 0))) wNil)))))))
 (zRet 4 (wIf (wT (wVar 11)) (w2 fAdd (wTup (wCons (wVar 6) wNil)) (wSl fSlS (wRd 7) (wSo (wC (.int 1))) wNo)) (wC .none)) (lz 5)))))))))))
def c__law_deed (a : Ad) : CZ := cOfZ N__law_deed [0, 4, 5, 6] lsz (u__law_deed a)
theorem dd__law_deed (t : Tx a K mg base T) (A : Around) (outer : List Env) (s : Shared) (H : Hp) (E : XK) (hr : Room 14 (A.deeper (envOfC "_law_deed" (defScope s__law_deed) s.heap.objs.size a.f__law_deed (.ref a.c__law_deed)))) :
  DZs T (cxOf (L2.CX P w) P w K mg base N__law_deed "_law_deed" (defScope s__law_deed) a.f__law_deed (.ref a.c__law_deed) A outer s H E) 4 (defBody s__law_deed) (u__law_deed a) :=
 (dz_cons (W := fun cls d _ H => E cls d H) (ds_parT (is := [3, 4, 5, 6]) (n := 4) rfl (db_sh (de_call (ok__law_roll t) (mono__law_roll t w s (hr.mono (by decide))) (hr.mono (by decide)) (by rfl) t.g__law_roll t.f__law_roll.kp (bi__law_roll t) (takes_of rfl rfl rfl rfl) (dp_dc (pv 1) (dp_sh de_int dp_nil))) (db_sh (de_tup (da_cons de_int (da_cons de_int (da_cons (de_call (ok__law_roll t) (mono__law_roll t w s (hr.mono (by decide))) (hr.mono (by decide)) (by rfl) t.g__law_roll t.f__law_roll.kp (bi__law_roll t) (takes_of rfl rfl rfl rfl) (dp_dc (pv 1) (dp_sh de_int dp_nil))) da_nil)))) (db_sh (de_call (ok__law_roll t) (mono__law_roll t w s (hr.mono (by decide))) (hr.mono (by decide)) (by rfl) t.g__law_roll t.f__law_roll.kp (bi__law_roll t) (takes_of rfl rfl rfl rfl) (dp_dc (pv 1) (dp_sh de_int dp_nil))) (db_sh (de_ix (dr_of (de_fresh (df_lst (da_cons de_str (da_cons de_str (da_cons de_str da_nil)))))) (dr_of (de_call (ok__law_roll t) (mono__law_roll t w s (hr.mono (by decide))) (hr.mono (by decide)) (by rfl) t.g__law_roll t.f__law_roll.kp (bi__law_roll t) (takes_of rfl rfl rfl rfl) (dp_dc (pv 1) (dp_sh de_int dp_nil))))) db_nil)))) (pgs_cons (pg_name (i := 3) sc__law_deed.nd rfl (by first | exact .inl rfl | exact .inr rfl)) (pgs_cons (pg_name (i := 4) sc__law_deed.nd rfl (by first | exact .inl rfl | exact .inr rfl)) (pgs_cons (pg_name (i := 5) sc__law_deed.nd rfl (by first | exact .inl rfl | exact .inr rfl)) (pgs_cons (pg_name (i := 6) sc__law_deed.nd rfl (by first | exact .inl rfl | exact .inr rfl)) pgs_nil)))) (.cons (.cons (.cons (.cons .nil)))))
 (dz_cons (W := fun cls d _ H => E cls d H) (ds_set (i := 7) sc__law_deed.nd rfl (by first | exact .inl rfl | exact .inr rfl) (de_vdget hr (de_dictI rfl hr (by rfl) t.m_dict (de_var 2 (pv 2))) (de_var 4 (pv 4)) de_non ⟨by rfl, by rfl, by rfl, by rfl⟩))
 (dz_cons (W := fun cls d _ H => E cls d H) (ds_set (i := 8) sc__law_deed.nd rfl (by first | exact .inl rfl | exact .inr rfl) (de_if (dt_cmp opD_notN mono_notN (dr_var 7 (pv 7)) (dr_of de_non) (by rfl)) (de_ix (dr_var 7 (pv 7)) (dr_of de_int)) de_str))
 (dz_if (W := fun cls d _ H => E cls d H) (dt_cmp opD_ltI mono_fC (dr_var 3 (pv 3)) (dr_of de_int) (by rfl))
 (dz_ret (W := fun cls d _ H => E cls d H) (l := lz 0) t.l__law_deed (by rfl) t.lm__law_deed t.lu__law_deed t.ln__law_deed ⟨lamS_by (by rfl), by rfl, fun _ _ _ _ _ => by rfl⟩ (pv 4) (de_if (dt_bool (dw_and (dt_cmp opD_isN mono_isN (dr_var 7 (pv 7)) (dr_of de_non) (by rfl)) (dw_and1 (dt_cmp (opD_ne hr) mono_eq (dr_var 6 (pv 6)) (dr_of de_str) (by rfl))))) (de_tup (da_cons (de_var 6 (pv 6)) (da_cons de_str (da_cons de_non (da_cons (de_tup (da_cons (de_tup (da_cons de_str (da_cons de_non da_nil))) da_nil)) da_nil))))) de_non) (by rfl) (by rfl))
 (dz_if (W := fun cls d _ H => E cls d H) (dt_cmp opD_ltI mono_fC (dr_var 3 (pv 3)) (dr_of de_int) (by rfl))
 (dz_cons (W := fun cls d _ H => E cls d H) (ds_set (i := 9) sc__law_deed.nd rfl (by first | exact .inl rfl | exact .inr rfl) (de_if (dt_cmp (opD_in hr) mono_in (dr_var 8 (pv 8)) (dr_of (de_fresh (df_lst (da_cons de_str (da_cons de_str (da_cons de_str da_nil)))))) (by rfl)) (de_tup (da_cons (de_ix (dr_var 7 (pv 7)) (dr_of de_int)) (da_cons de_str (da_cons de_non (da_cons (de_op opD_add mono_add (dr_of (de_ix (dr_var 7 (pv 7)) (dr_of de_int))) (dr_of (de_tup (da_cons (de_tup (da_cons de_str (da_cons de_non da_nil))) da_nil)))) da_nil))))) de_non))
 (dz_ret (W := fun cls d _ H => E cls d H) (l := lz 1) t.l__law_deed (by rfl) t.lm__law_deed t.lu__law_deed t.ln__law_deed ⟨lamS_by (by rfl), by rfl, fun _ _ _ _ _ => by rfl⟩ (pv 4) (de_var 9 (pv 9)) (by rfl) (by rfl)))
 (dz_if (W := fun cls d _ H => E cls d H) (dt_cmp (opD_eq hr) mono_eq (dr_var 3 (pv 3)) (dr_of de_int) (by rfl))
 (dz_cons (W := fun cls d _ H => E cls d H) (ds_set (i := 10) sc__law_deed.nd rfl (by first | exact .inl rfl | exact .inr rfl) (de_callB cd_len mono_len (by rfl) t.m_len bt_len (dr_of (de_fresh (df_lc (by rfl) sc__law_deed.nd (di_tup (de_unp (de_var 2 (pv 2)))) (blk_by (own := [("one", 12), ("row", 13)]) (by rfl)) (sl := ([12] ++ ([13] ++ []))) (by decide) (fun _ _ _ _ _ => (dg_tup (by rfl) (dgs_cons (dg_name 12 (pg_name sc__law_deed.nd rfl (by first | exact .inl rfl | exact .inr rfl))) (dgs_cons (dg_name 13 (pg_name sc__law_deed.nd rfl (by first | exact .inl rfl | exact .inr rfl))) dgs_nil)))) (fun _ _ _ _ _ => (dts_one (dt_cmp (opD_eq hr) mono_eq (dr_of (de_sl (dr_var 13 (pv 13)) (do_some de_int) (do_some de_int))) (dr_of (de_tup (da_cons de_str (da_cons (de_var 5 (pv 5)) da_nil)))) (by rfl)))) (fun _ _ _ _ _ => de_int))))))
 (dz_cons (W := fun cls d _ H => E cls d H) (ds_set (i := 11) sc__law_deed.nd rfl (by first | exact .inl rfl | exact .inr rfl) (de_and (de_cmp (opD_eq hr) mono_eq (dr_var 8 (pv 8)) (dr_of de_str) (by rfl)) (de_and (de_cmp opD_ltI mono_fC (dr_var 5 (pv 5)) (dr_of de_int) (by rfl)) (de_one (de_cmp opD_ltI mono_fC (dr_var 10 (pv 10)) (dr_of (de_ix (dr_of (de_fresh (df_lst (da_cons de_int (da_cons de_int da_nil))))) (dr_of (de_callBA (cda_min2 (by rfl)) mono_min2 (by rfl) t.m_min bt_min (da_cons (de_var 5 (pv 5)) (da_cons de_int da_nil)))))) (by rfl))))))
 (dz_ret (W := fun cls d _ H => E cls d H) (l := lz 2) t.l__law_deed (by rfl) t.lm__law_deed t.lu__law_deed t.ln__law_deed ⟨lamS_by (by rfl), by rfl, fun _ _ _ _ _ => by rfl⟩ (pv 4) (de_if (dt_val (de_var 11 (pv 11))) (de_tup (da_cons (de_ix (dr_var 7 (pv 7)) (dr_of de_int)) (da_cons de_str (da_cons (de_var 5 (pv 5)) (da_cons (de_op opD_add mono_add (dr_of (de_ix (dr_var 7 (pv 7)) (dr_of de_int))) (dr_of (de_tup (da_cons (de_tup (da_cons de_str (da_cons (de_var 5 (pv 5)) da_nil))) da_nil)))) da_nil))))) de_non) (by rfl) (by rfl))))
 (dz_if (W := fun cls d _ H => E cls d H) (dt_cmp (opD_eq hr) mono_eq (dr_var 3 (pv 3)) (dr_of de_int) (by rfl))
 (dz_cons (W := fun cls d _ H => E cls d H) (ds_set (i := 11) sc__law_deed.nd rfl (by first | exact .inl rfl | exact .inr rfl) (de_and (de_cmp (opD_eq hr) mono_eq (dr_var 8 (pv 8)) (dr_of de_str) (by rfl)) (de_one (de_cmp (opD_ne hr) mono_eq (dr_var 6 (pv 6)) (dr_of de_str) (by rfl)))))
 (dz_ret (W := fun cls d _ H => E cls d H) (l := lz 3) t.l__law_deed (by rfl) t.lm__law_deed t.lu__law_deed t.ln__law_deed ⟨lamS_by (by rfl), by rfl, fun _ _ _ _ _ => by rfl⟩ (pv 4) (de_if (dt_val (de_var 11 (pv 11))) (de_tup (da_cons (de_ix (dr_var 7 (pv 7)) (dr_of de_int)) (da_cons de_str (da_cons (de_var 6 (pv 6)) (da_cons (de_op opD_add mono_add (dr_of (de_ix (dr_var 7 (pv 7)) (dr_of de_int))) (dr_of (de_tup (da_cons (de_tup (da_cons de_str (da_cons (de_var 6 (pv 6)) da_nil))) da_nil)))) da_nil))))) de_non) (by rfl) (by rfl)))
 (dz_if (W := fun cls d _ H => E cls d H) (dt_cmp (opD_eq hr) mono_eq (dr_var 3 (pv 3)) (dr_of de_int) (by rfl))
 (dz_ret (W := fun cls d _ H => E cls d H) (l := lz 4) t.l__law_deed (by rfl) t.lm__law_deed t.lu__law_deed t.ln__law_deed ⟨lamS_by (by rfl), by rfl, fun _ _ _ _ _ => by rfl⟩ (pv 4) (de_if (dt_cmp (opD_eq hr) mono_eq (dr_var 8 (pv 8)) (dr_of de_str) (by rfl)) (de_tup (da_cons (de_ix (dr_var 7 (pv 7)) (dr_of de_int)) (da_cons de_str (da_cons de_non (da_cons (de_op opD_add mono_add (dr_of (de_ix (dr_var 7 (pv 7)) (dr_of de_int))) (dr_of (de_tup (da_cons (de_tup (da_cons de_str (da_cons de_non da_nil))) da_nil)))) da_nil))))) de_non) (by rfl) (by rfl))
 (dz_cons (W := fun cls d _ H => E cls d H) (ds_set (i := 11) sc__law_deed.nd rfl (by first | exact .inl rfl | exact .inr rfl) (de_and (de_cmp opD_notN mono_notN (dr_var 7 (pv 7)) (dr_of de_non) (by rfl)) (de_and (de_cmp (opD_ne hr) mono_eq (dr_var 8 (pv 8)) (dr_of de_str) (by rfl)) (de_one (de_cmp (opD_notIn hr) mono_in (dr_var 6 (pv 6)) (dr_of (de_fresh (df_lst (da_cons de_str (da_cons (de_ix (dr_var 7 (pv 7)) (dr_of de_int)) da_nil))))) (by rfl))))))
 (dz_ret (W := fun cls d _ H => E cls d H) (l := lz 5) t.l__law_deed (by rfl) t.lm__law_deed t.lu__law_deed t.ln__law_deed ⟨lamS_by (by rfl), by rfl, fun _ _ _ _ _ => by rfl⟩ (pv 4) (de_if (dt_val (de_var 11 (pv 11))) (de_op opD_add mono_add (dr_of (de_tup (da_cons (de_var 6 (pv 6)) da_nil))) (dr_of (de_sl (dr_var 7 (pv 7)) (do_some de_int) do_none))) de_non) (by rfl) (by rfl)))))))))))
theorem mono__law_deed (t : Tx a K mg base T) (w : World) (s : Shared) {A : Around} (hr : Room (14 + 1) A) : MonoCZ (c__law_deed a) := mono_cOfZ (dd__law_deed (P := PySem.Challenge.pw_museum_k17_a_register_and_its_deeds) (w := w) t A [] s (fun _ => none) (fun _ _ _ => False) (hr.deeper _)).mono
abbrev mkX17 (P : Program) (w : World) (K : PySem.W.Frag) (mg : Str → Option Value) (base : Heap) (a : Ad) : Around → List Env → Shared → Hp → XK → Cx := fun A outer s H E => (cxOf (L2.CX P w) P w K mg base N__law_deed "_law_deed" (defScope s__law_deed) a.f__law_deed (.ref a.c__law_deed) A outer s H E)
theorem ok__law_deed (t : Tx a K mg base T) : FnOk P w K mg base (L2.CX P w) (14 + 1) a.f__law_deed a.d__law_deed ["book", "dice", "now"] (spZ T K (mkX17 P w K mg base a) 4 3 (c__law_deed a)) := fn_okZ t.f__law_deed sc__law_deed (caps_by (by decide +kernel)) sc__law_deed.nd fun A outer s H E hr => dd__law_deed t A outer s H E hr
def tab17 (a : Ad) : List Ent := [⟨lz 0, "take_in", [4, 6], cG_ti a, c_ti a⟩,
  ⟨lz 1, "put_by", [4], cG_pb a, c_pb a⟩,
  ⟨lz 2, "show", [4, 5], cG_sh a, c_sh a⟩,
  ⟨lz 3, "lend", [4, 6], cG_le a, c_le a⟩,
  ⟨lz 4, "let_go", [4], cG_lg a, c_lg a⟩,
  ⟨lz 5, "rename", [4, 6], cG_rn a, c_rn a⟩]
theorem lamz0 : LamZ (lz 0).scope := ⟨by rfl, by rfl, by rfl, by decide +kernel⟩
theorem lamz1 : LamZ (lz 1).scope := ⟨by rfl, by rfl, by rfl, by decide +kernel⟩
theorem lamz2 : LamZ (lz 2).scope := ⟨by rfl, by rfl, by rfl, by decide +kernel⟩
theorem lamz3 : LamZ (lz 3).scope := ⟨by rfl, by rfl, by rfl, by decide +kernel⟩
theorem lamz4 : LamZ (lz 4).scope := ⟨by rfl, by rfl, by rfl, by decide +kernel⟩
theorem lamz5 : LamZ (lz 5).scope := ⟨by rfl, by rfl, by rfl, by decide +kernel⟩
abbrev lawX17 (P : Program) (w : World) (K : PySem.W.Frag) (mg : Str → Option Value) (base : Heap) (a : Ad) : Around → List Env → Shared → Hp → XK → Cx := fun A outer s H E => (cxOf (L2.CX P w) P w K mg base N_law "law" (defScope s_law) a.f_law (.ref a.c_law) A outer s H E)
theorem ent0 (t : Tx a K mg base T) (w : World) (A0 : Around) (outer0 : List Env) (s0 : Shared) (H0 : Hp) (E0 : XK) {A1 : Around} (hA : Room 23 A1) : EntOk T (lawX17 P w K mg base a A0 outer0 s0 H0 E0) a.C_R 0 30 (mkX17 P w K mg base a) ⟨lz 0, "take_in", [4, 6], cG_ti a, c_ti a⟩ :=
  ⟨lamz0, fun _ _ _ _ _ => by rfl, fun Ad outd sd Hd Ed A outer s H E f c hr => pe_methSD (X := LamX.lamCx (mkX17 P w K mg base a Ad outd sd Hd Ed) A outer s H E (lz 0).scope f c) (E := fun _ => E) (pv 0) t.R.cl t.me_ti (fnOk_or (okG_ti t) (ok_ti t)) (hr.mono (by decide)) (bi_ti t) (fun σ => passAt (takes_of rfl rfl rfl rfl) σ) (pa_cons (pv 4) (pa_cons (pv 6) pa_nil)) (by rfl) (by rfl) (by rfl), monoG_ti t w s0 (hA.mono (by decide)), mono_ti t w s0 (hA.mono (by decide)), fun _ _ _ _ => by rfl⟩
theorem ent1 (t : Tx a K mg base T) (w : World) (A0 : Around) (outer0 : List Env) (s0 : Shared) (H0 : Hp) (E0 : XK) {A1 : Around} (hA : Room 23 A1) : EntOk T (lawX17 P w K mg base a A0 outer0 s0 H0 E0) a.C_R 0 30 (mkX17 P w K mg base a) ⟨lz 1, "put_by", [4], cG_pb a, c_pb a⟩ :=
  ⟨lamz1, fun _ _ _ _ _ => by rfl, fun Ad outd sd Hd Ed A outer s H E f c hr => pe_methSD (X := LamX.lamCx (mkX17 P w K mg base a Ad outd sd Hd Ed) A outer s H E (lz 1).scope f c) (E := fun _ => E) (pv 0) t.R.cl t.me_pb (fnOk_or (okG_pb t) (ok_pb t)) (hr.mono (by decide)) (bi_pb t) (fun σ => passAt (takes_of rfl rfl rfl rfl) σ) (pa_cons (pv 4) pa_nil) (by rfl) (by rfl) (by rfl), monoG_pb t w s0 (hA.mono (by decide)), mono_pb t w s0 (hA.mono (by decide)), fun _ _ _ _ => by rfl⟩
theorem ent2 (t : Tx a K mg base T) (w : World) (A0 : Around) (outer0 : List Env) (s0 : Shared) (H0 : Hp) (E0 : XK) {A1 : Around} (hA : Room 23 A1) : EntOk T (lawX17 P w K mg base a A0 outer0 s0 H0 E0) a.C_R 0 30 (mkX17 P w K mg base a) ⟨lz 2, "show", [4, 5], cG_sh a, c_sh a⟩ :=
  ⟨lamz2, fun _ _ _ _ _ => by rfl, fun Ad outd sd Hd Ed A outer s H E f c hr => pe_methSD (X := LamX.lamCx (mkX17 P w K mg base a Ad outd sd Hd Ed) A outer s H E (lz 2).scope f c) (E := fun _ => E) (pv 0) t.R.cl t.me_sh (fnOk_or (okG_sh t) (ok_sh t)) (hr.mono (by decide)) (bi_sh t) (fun σ => passAt (takes_of rfl rfl rfl rfl) σ) (pa_cons (pv 4) (pa_cons (pv 5) pa_nil)) (by rfl) (by rfl) (by rfl), monoG_sh t w s0 (hA.mono (by decide)), mono_sh t w s0 (hA.mono (by decide)), fun _ _ _ _ => by rfl⟩
theorem ent3 (t : Tx a K mg base T) (w : World) (A0 : Around) (outer0 : List Env) (s0 : Shared) (H0 : Hp) (E0 : XK) {A1 : Around} (hA : Room 23 A1) : EntOk T (lawX17 P w K mg base a A0 outer0 s0 H0 E0) a.C_R 0 30 (mkX17 P w K mg base a) ⟨lz 3, "lend", [4, 6], cG_le a, c_le a⟩ :=
  ⟨lamz3, fun _ _ _ _ _ => by rfl, fun Ad outd sd Hd Ed A outer s H E f c hr => pe_methSD (X := LamX.lamCx (mkX17 P w K mg base a Ad outd sd Hd Ed) A outer s H E (lz 3).scope f c) (E := fun _ => E) (pv 0) t.R.cl t.me_le (fnOk_or (okG_le t) (ok_le t)) (hr.mono (by decide)) (bi_le t) (fun σ => passAt (takes_of rfl rfl rfl rfl) σ) (pa_cons (pv 4) (pa_cons (pv 6) pa_nil)) (by rfl) (by rfl) (by rfl), monoG_le t w s0 (hA.mono (by decide)), mono_le t w s0 (hA.mono (by decide)), fun _ _ _ _ => by rfl⟩
theorem ent4 (t : Tx a K mg base T) (w : World) (A0 : Around) (outer0 : List Env) (s0 : Shared) (H0 : Hp) (E0 : XK) {A1 : Around} (hA : Room 23 A1) : EntOk T (lawX17 P w K mg base a A0 outer0 s0 H0 E0) a.C_R 0 30 (mkX17 P w K mg base a) ⟨lz 4, "let_go", [4], cG_lg a, c_lg a⟩ :=
  ⟨lamz4, fun _ _ _ _ _ => by rfl, fun Ad outd sd Hd Ed A outer s H E f c hr => pe_methSD (X := LamX.lamCx (mkX17 P w K mg base a Ad outd sd Hd Ed) A outer s H E (lz 4).scope f c) (E := fun _ => E) (pv 0) t.R.cl t.me_lg (fnOk_or (okG_lg t) (ok_lg t)) (hr.mono (by decide)) (bi_lg t) (fun σ => passAt (takes_of rfl rfl rfl rfl) σ) (pa_cons (pv 4) pa_nil) (by rfl) (by rfl) (by rfl), monoG_lg t w s0 (hA.mono (by decide)), mono_lg t w s0 (hA.mono (by decide)), fun _ _ _ _ => by rfl⟩
theorem ent5 (t : Tx a K mg base T) (w : World) (A0 : Around) (outer0 : List Env) (s0 : Shared) (H0 : Hp) (E0 : XK) {A1 : Around} (hA : Room 23 A1) : EntOk T (lawX17 P w K mg base a A0 outer0 s0 H0 E0) a.C_R 0 30 (mkX17 P w K mg base a) ⟨lz 5, "rename", [4, 6], cG_rn a, c_rn a⟩ :=
  ⟨lamz5, fun _ _ _ _ _ => by rfl, fun Ad outd sd Hd Ed A outer s H E f c hr => pe_methSD (X := LamX.lamCx (mkX17 P w K mg base a Ad outd sd Hd Ed) A outer s H E (lz 5).scope f c) (E := fun _ => E) (pv 0) t.R.cl t.me_rn (fnOk_or (okG_rn t) (ok_rn t)) (hr.mono (by decide)) (bi_rn t) (fun σ => passAt (takes_of rfl rfl rfl rfl) σ) (pa_cons (pv 4) (pa_cons (pv 6) pa_nil)) (by rfl) (by rfl) (by rfl), monoG_rn t w s0 (hA.mono (by decide)), mono_rn t w s0 (hA.mono (by decide)), fun _ _ _ _ => by rfl⟩
theorem ents17 (t : Tx a K mg base T) (w : World) (A0 : Around) (outer0 : List Env) (s0 : Shared) (H0 : Hp) (E0 : XK) {A1 : Around} (hA : Room 23 A1) : ∀ e ∈ tab17 a, EntOk T (lawX17 P w K mg base a A0 outer0 s0 H0 E0) a.C_R 0 30 (mkX17 P w K mg base a) e :=
  List.forall_mem_cons.mpr ⟨ent0 t w A0 outer0 s0 H0 E0 hA, List.forall_mem_cons.mpr ⟨ent1 t w A0 outer0 s0 H0 E0 hA, List.forall_mem_cons.mpr ⟨ent2 t w A0 outer0 s0 H0 E0 hA, List.forall_mem_cons.mpr ⟨ent3 t w A0 outer0 s0 H0 E0 hA, List.forall_mem_cons.mpr ⟨ent4 t w A0 outer0 s0 H0 E0 hA, List.forall_mem_cons.mpr ⟨ent5 t w A0 outer0 s0 H0 E0 hA, (fun _ h => by cases h)⟩⟩⟩⟩⟩⟩
def u_law (a : Ad) : SW :=
 (sSeq (sInit 2 3 4 [2, 1])
 (sSeq (sFor (wRng1 (wCons (wCall 2 (c__law_roll a) (wpDc 1 (wpSh (wC (.int 19)) wpNil))) wNil)) (gNameD 5)
 (sSeq (sIf (wT (w2 (fEq false) (wCall 2 (c__law_roll a) (wpDc 1 (wpSh (wC (.int 6)) wpNil))) (wC (.int 0)))) (sSeq (sSet 6 (w2 fIx (wLst (wCons (w2 (fI CT fun i j => i - j) (wC (.int 0)) (wC (.int 1))) (wCons (wC (.int 1)) wNil))) (wCall 2 (c__law_roll a) (wpDc 1 (wpSh (wC (.int 2)) wpNil)))))
 (sSeq (sSet 7 (wCh (fC fun i j => decide (i ≤ j)) (fC fun i j => decide (i < j)) (wC (.int 0)) (w2 fAdd (wRd 4) (wRd 6)) (w1 fLen (wRd 3))))
 (sSeq (sIf (wT (w2 (fC fun i j => decide (i < j)) (wRd 6) (wC (.int 0)))) (sOr (sSet 8 (wLend 2 (wToldB a.x_BadDeed "due" "done" (wMethR 1 2 (c_un a) wpNil)))) (sToldG 8 2 "done" (cG_un a))) (sOr (sSet 8 (wLend 2 (wToldB a.x_BadDeed "due" "done" (wMethR 1 2 (c_re a) wpNil)))) (sToldG 8 2 "done" (cG_re a))))
 (sSet 4 (w2 fAdd (wRd 4) (w2 fMul (wRd 6) (w1 fInt (wRd 7)))))))) (sSeq (sDeed 2 3 4 0 9 10 11 7 8 a.x_BadDeed "due" "done" (c__law_deed a) (tab17 a) (wpMk 2 (wpDc 1 (wpSh (w2 fIx (wRd 3) (wRd 4)) wpNil))))
 (sIf (wT (wVar 7)) (sSeq (sDictI 12 (w2 fIx (wRd 3) (wRd 4)))
 (sSeq (sPut 12 (wVar 9) (wVar 10))
 (sParN [3, 4] (wpSh (w2 fCat (wSl fSlL (wRd 3) wNo (wSo (w2 fAdd (wRd 4) (wC (.int 1))))) (wLst (wCons (wTupM (wLc (wItL (wSortT 12)) (gNameD 15) wYes (wTup (wCons (wVar 15) (wCons (wDIx 12 (wVar 15)) wNil))) [15])) wNil))) (wpSh (w2 fAdd (wRd 4) (wC (.int 1))) wpNil))))) sNil)))
 (sSeq (sSet 13 (w2 fIx (wRd 3) (wRd 4)))
 (sSeq (sIf (wOr (wT (w2 (fEq true) (wRd 8) (w2 fIx (wLst (wCons (wC (.str "due")) (wCons (wC (.str "done")) wNil))) (w1 fInt (wRd 7))))) (wT (w2 (fEq true) (wUnp (wLend 2 (wMethR 1 2 (c_st a) wpNil))) (wUnp (wVar 13))))) (sRet (wC (.bool false))) sNil)
 (sSeq (sFor (wItL (wLst (wCons (wC (.int 0)) (wCons (wC (.int 1)) wNil)))) (gNameD 14)
 (sIf (wT (w2 (fEq true) (w1 fList (wLend 2 (wMethR 2 2 (c_si a) (wpSh (wVar 14) wpNil)))) (wLc (wItT (wUnp (wVar 13))) (gTupD 2 (gConsD (gNameD 15) (gConsD (gNameD 16) gNilD))) (wT (w2 (fEq false) (wSl fSlS (wRd 16) (wSo (wC (.int 1))) (wSo (wC (.int 3)))) (wTup (wCons (wC (.str "shown")) (wCons (wVar 14) wNil))))) (wVar 15) [15, 16]))) (sRet (wC (.bool false))) sNil))
 (sSeq (sIf (wT (w2 (fEq true) (w1 fList (wLend 2 (wMethR 2 2 (c_lt a) (wpSh (wC (.str "a")) wpNil)))) (wLc (wItT (wUnp (wVar 13))) (gTupD 2 (gConsD (gNameD 15) (gConsD (gNameD 16) gNilD))) (wT (w2 (fEq false) (wSl fSlS (wRd 16) (wSo (wC (.int 1))) (wSo (wC (.int 3)))) (wTup (wCons (wC (.str "lent")) (wCons (wC (.str "a")) wNil))))) (wVar 15) [15, 16]))) (sRet (wC (.bool false))) sNil)
 (sFor (wItT (wUnp (wVar 13))) (gTupD 2 (gConsD (gNameD 15) (gConsD (gNameD 16) gNilD)))
 (sSeq (sOwn 17 (wLc (wItT (w2 fIx (wRd 16) (wC (.int 3)))) (gTupD 2 (gConsD (gNameD 18) (gConsD (gNameD 19) gNilD))) wYes (wVar 18) [18, 19]))
 (sFrz 17 (sIf (wT (w2 (fEq true) (wLend 2 (wMethR 2 2 (c_of a) (wpSh (wVar 15) wpNil))) (wTup (wCons (wCntD (wVar 17) (wC (.str "shown"))) (wCons (wCntD (wVar 17) (wC (.str "lent"))) wNil))))) (sRet (wC (.bool false))) sNil))))))))))
 (sIf (wT (w2 (fEq true) (wLend 2 (wToldB a.x_BadDeed "due" "done" (wMethR 3 2 (c_ti a) (wpSh (wTup (wCons (wC (.int 1)) (wCons (wC (.int 2)) (wCons (wC (.int 3)) wNil)))) (wpSh (wC (.str "a")) wpNil))))) (wC (.str "due")))) (sRet (wC (.bool false))) sNil)))
def i_law (a : Ad) : PW := (wCall 2 (c__law_rounds a) (wpSc 0 (wpSh (wC (.int 1)) wpNil)))
theorem di_law (t : Tx a K mg base T) (A : Around) (outer : List Env) (s : Shared) (H : Hp) (E : XK) (hr : Room 40 (A.deeper (envOfC "law" (defScope s_law) s.heap.objs.size a.f_law (.ref a.c_law)))) : DE T (cxOf (L2.CX P w) P w K mg base N_law "law" (defScope s_law) a.f_law (.ref a.c_law) A outer s H E) (fun cls d _ H => E cls d H) (lawIter s_law) (i_law a) := (de_call (ok__law_rounds t) (mono__law_rounds t w s (hr.mono (by decide))) (hr.mono (by decide)) (by rfl) t.g__law_rounds t.f__law_rounds.kp (bi__law_rounds t) (takes_of rfl rfl rfl rfl) (dp_sc (pv 0) (dp_sh de_int dp_nil)))
theorem dd_law (t : Tx a K mg base T) (kn : T.kn = []) (A : Around) (outer : List Env) (s : Shared) (H : Hp) (E : XK) (hr : Room 40 (A.deeper (envOfC "law" (defScope s_law) s.heap.objs.size a.f_law (.ref a.c_law)))) :
  DSs T (cxOf (L2.CX P w) P w K mg base N_law "law" (defScope s_law) a.f_law (.ref a.c_law) A outer s H E) (fun cls d _ H => E cls d H) (lawBody s_law) (u_law a) :=
 (dss_cons (ds_init t.R rfl t.mk_ri (ok_ri17 t) (hr.mono (by decide)) (by rfl) t.R_g (bi_ri t) (takes_of rfl rfl rfl rfl) (pgs_cons (pg_name (i := 2) sc_law.nd rfl (by first | exact .inl rfl | exact .inr rfl)) (pgs_cons (pg_name (i := 3) sc_law.nd rfl (by first | exact .inl rfl | exact .inr rfl)) (pgs_cons (pg_name (i := 4) sc_law.nd rfl (by first | exact .inl rfl | exact .inr rfl)) pgs_nil))) (.cons (.cons (.cons .nil))) (by rfl) (by rfl) (by rfl) (by rfl) (by rfl))
 (dss_cons (ds_for (passes_of rfl) rfl (di_range1 (by rfl) t.m_range (da_cons (de_call (ok__law_roll t) (mono__law_roll t w s (hr.mono (by decide))) (hr.mono (by decide)) (by rfl) t.g__law_roll t.f__law_roll.kp (bi__law_roll t) (takes_of rfl rfl rfl rfl) (dp_dc (pv 1) (dp_sh de_int dp_nil))) da_nil)) (dg_name 5 (pg_name sc_law.nd rfl (by first | exact .inl rfl | exact .inr rfl)))
 (dss_cons (ds_if (dt_cmp (opD_eq hr) mono_eq (dr_of (de_call (ok__law_roll t) (mono__law_roll t w s (hr.mono (by decide))) (hr.mono (by decide)) (by rfl) t.g__law_roll t.f__law_roll.kp (bi__law_roll t) (takes_of rfl rfl rfl rfl) (dp_dc (pv 1) (dp_sh de_int dp_nil)))) (dr_of de_int) (by rfl))
 (dss_cons (ds_set (i := 6) sc_law.nd rfl (by first | exact .inl rfl | exact .inr rfl) (de_ix (dr_of (de_fresh (df_lst (da_cons (de_op opD_sub mono_fI (dr_of de_int) (dr_of de_int)) (da_cons de_int da_nil))))) (dr_of (de_call (ok__law_roll t) (mono__law_roll t w s (hr.mono (by decide))) (hr.mono (by decide)) (by rfl) t.g__law_roll t.f__law_roll.kp (bi__law_roll t) (takes_of rfl rfl rfl rfl) (dp_dc (pv 1) (dp_sh de_int dp_nil))))))
 (dss_cons (ds_set (i := 7) sc_law.nd rfl (by first | exact .inl rfl | exact .inr rfl) (de_chain opD_leI opD_ltI mono_fC mono_fC de_int (de_op opD_add mono_add (dr_var 4 (pv 4)) (dr_var 6 (pv 6))) (de_callB cd_len mono_len (by rfl) t.m_len bt_len (dr_var 3 (pv 3)))))
 (dss_cons (ds_if (dt_cmp opD_ltI mono_fC (dr_var 6 (pv 6)) (dr_of de_int) (by rfl))
 (dss_one (ds_or (ds_set (i := 8) sc_law.nd rfl (by first | exact .inl rfl | exact .inr rfl) (de_lend (de_toldB (k := 38) (Ng := N__law_told) (by rfl) t.g__law_told t.f__law_told (bi__law_told t) sc__law_told (by rfl) (.inl (by rfl)) (told_givesB (by rfl) t.x_BadDeed.g (by decide) (fun _ => by rfl)) t.em_BadDeed_BadDeed t.l_law (by rfl) t.lm_law t.lu_law t.ln_law hr (lamS_by (by rfl)) (by rfl) (fun _ _ _ _ _ => by rfl) (fun A outer s H E f c hrL => (de_methR0 t.R t.me_un (fun _ _ _ _ => by rfl) (ok_un t) (mono_un t w s (hrL.mono (by decide))) (hrL.mono (by decide)) (bi_un t) (takes_of rfl rfl rfl rfl) (pv 2) (by rfl))))))
 (ds_toldG (pl := fun _ => pure false) (k := 38) (m := 8) (i := 2) t.R sc_law.nd rfl (by first | exact .inl rfl | exact .inr rfl) (by rfl) t.g__law_told t.f__law_told (bi__law_told t) sc__law_told (by rfl) (.inl (by rfl)) (told_givesB (by rfl) t.x_BadDeed.g (by decide) (fun _ => by rfl)) t.l_law (by rfl) t.lm_law t.lu_law t.ln_law hr (lamS_by (by rfl)) (by rfl) (fun _ _ _ _ _ => by rfl) t.me_un (fun _ _ _ _ => by rfl) (okG_un t) (monoG_un t w s (hr.mono (by decide))) (bi_un t) (fun _ h => h.mono (by decide)) (fun A outer s H E f c => ⟨pv 2, (takes_of rfl rfl rfl rfl), _, by rfl⟩)))) (dss_one (ds_or (ds_set (i := 8) sc_law.nd rfl (by first | exact .inl rfl | exact .inr rfl) (de_lend (de_toldB (k := 38) (Ng := N__law_told) (by rfl) t.g__law_told t.f__law_told (bi__law_told t) sc__law_told (by rfl) (.inl (by rfl)) (told_givesB (by rfl) t.x_BadDeed.g (by decide) (fun _ => by rfl)) t.em_BadDeed_BadDeed t.l_law (by rfl) t.lm_law t.lu_law t.ln_law hr (lamS_by (by rfl)) (by rfl) (fun _ _ _ _ _ => by rfl) (fun A outer s H E f c hrL => (de_methR0 t.R t.me_re (fun _ _ _ _ => by rfl) (ok_re t) (mono_re t w s (hrL.mono (by decide))) (hrL.mono (by decide)) (bi_re t) (takes_of rfl rfl rfl rfl) (pv 2) (by rfl))))))
 (ds_toldG (pl := fun _ => pure false) (k := 38) (m := 8) (i := 2) t.R sc_law.nd rfl (by first | exact .inl rfl | exact .inr rfl) (by rfl) t.g__law_told t.f__law_told (bi__law_told t) sc__law_told (by rfl) (.inl (by rfl)) (told_givesB (by rfl) t.x_BadDeed.g (by decide) (fun _ => by rfl)) t.l_law (by rfl) t.lm_law t.lu_law t.ln_law hr (lamS_by (by rfl)) (by rfl) (fun _ _ _ _ _ => by rfl) t.me_re (fun _ _ _ _ => by rfl) (okG_re t) (monoG_re t w s (hr.mono (by decide))) (bi_re t) (fun _ h => h.mono (by decide)) (fun A outer s H E f c => ⟨pv 2, (takes_of rfl rfl rfl rfl), _, by rfl⟩)))))
 (dss_one (ds_set (i := 4) sc_law.nd rfl (by first | exact .inl rfl | exact .inr rfl) (de_op opD_add mono_add (dr_var 4 (pv 4)) (dr_of (de_op opD_mul mono_mul (dr_var 6 (pv 6)) (dr_of (de_callTy cd_int mono_int (by rfl) t.m_int bt_int (dr_var 7 (pv 7)))))))))))) (dss_deed (k := 30) (qd := (envOfC "_law_deed" (defScope s__law_deed) 0 0 (.ref 0)).qual ++ "<lambda>") (mkX := mkX17 P w K mg base a) t.R rfl kn (ok__law_deed t) (mono__law_deed t w s (hr.mono (by decide))) (hr.mono (by decide)) (by rfl) t.g__law_deed t.f__law_deed.kp (bi__law_deed t) (takes_of rfl rfl rfl rfl) (dp_mk (pv 2) (dp_dc (pv 1) (dp_sh (de_ix (dr_var 3 (pv 3)) (dr_var 4 (pv 4))) dp_nil)))
 (pgs_cons (pg_name (i := 9) sc_law.nd rfl (by first | exact .inl rfl | exact .inr rfl)) (pgs_cons (pg_name (i := 10) sc_law.nd rfl (by first | exact .inl rfl | exact .inr rfl)) (pgs_cons (pg_name (i := 11) sc_law.nd rfl (by first | exact .inl rfl | exact .inr rfl)) pgs_nil))) (.cons (.cons (.cons .nil))) (by rfl) (by rfl) (by rfl) (by rfl) (by rfl) (by rfl) (by rfl)
 (pv 10) (pv 11) (by rfl) t.g__law_told t.f__law_told (bi__law_told t) sc__law_told (by rfl) (.inl (by rfl)) (told_givesB (by rfl) t.x_BadDeed.g (by decide) (fun _ => by rfl)) t.em_BadDeed_BadDeed (hr.mono (by decide)) (fun _ _ _ _ _ => by rfl) (fun _ _ _ _ _ => ⟨rfl, rfl, rfl, rfl, rfl⟩) (ents17 t w A outer s H E (hr.mono (by decide)))
 sc_law.nd rfl rfl (by decide) rfl rfl (by rfl) (by rfl) (by decide) (by decide)
 (dss_one (ds_if (dt_val (de_var 7 (pv 7)))
 (dss_cons (ds_dictI sc_law.nd rfl (by first | exact .inl rfl | exact .inr rfl) rfl hr (by rfl) t.m_dict (de_ix (dr_var 3 (pv 3)) (dr_var 4 (pv 4))))
 (dss_cons (ds_put (i := 12) hr (pv 12) (de_var 9 (pv 9)) (de_var 10 (pv 10)))
 (dss_one (ds_par2 (i := 3) (j := 4) rfl sc_law.nd rfl rfl (by decide) rfl rfl (db_sh (de_fresh (df_op opF_cat mono_cat (dr_of (de_fresh (df_sl (dr_var 3 (pv 3)) do_none (do_some (de_op opD_add mono_add (dr_var 4 (pv 4)) (dr_of de_int)))))) (dr_of (de_fresh (df_lst (da_cons (de_tupM (by rfl) t.m_tuple (dr_of (de_fresh (df_lc (by rfl) sc_law.nd (di_list (de_fresh (df_sortt hr (by rfl) t.m_sorted (pv 12)))) (blk_by (own := [("one", 15)]) (by rfl)) (sl := [15]) (by decide) (fun _ _ _ _ _ => (dg_name 15 (pg_name sc_law.nd rfl (by first | exact .inl rfl | exact .inr rfl)))) (fun _ _ _ _ _ => dts_nil) (fun _ _ _ _ _ => (de_tup (da_cons (de_var 15 (pv 15)) (da_cons (de_dcx (i := 12) hr (pv 12) (de_var 15 (pv 15)) (fun _ _ => rfl)) da_nil)))))))) da_nil)))))) (db_sh (de_op opD_add mono_add (dr_var 4 (pv 4)) (dr_of de_int)) db_nil)) (by rfl))))) dss_nil))))
 (dss_cons (ds_set (i := 13) sc_law.nd rfl (by first | exact .inl rfl | exact .inr rfl) (de_ix (dr_var 3 (pv 3)) (dr_var 4 (pv 4))))
 (dss_cons (ds_if (dt_bool (dw_or (dt_cmp (opD_ne hr) mono_eq (dr_var 8 (pv 8)) (dr_of (de_ix (dr_of (de_fresh (df_lst (da_cons de_str (da_cons de_str da_nil))))) (dr_of (de_callTy cd_int mono_int (by rfl) t.m_int bt_int (dr_var 7 (pv 7)))))) (by rfl)) (dw_or1 (dt_cmp (opD_ne hr) mono_eq (dr_of (de_unp (de_lend (de_methR0 t.R t.me_st (fun _ _ _ _ => by rfl) (ok_st t) (mono_st t w s (hr.mono (by decide))) (hr.mono (by decide)) (bi_st t) (takes_of rfl rfl rfl rfl) (pv 2) (by rfl))))) (dr_of (de_unp (de_var 13 (pv 13)))) (by rfl)))))
 (dss_one (ds_ret de_bl)) dss_nil)
 (dss_cons (ds_for (passes_of rfl) rfl (di_list (de_fresh (df_lst (da_cons de_int (da_cons de_int da_nil))))) (dg_name 14 (pg_name sc_law.nd rfl (by first | exact .inl rfl | exact .inr rfl)))
 (dss_one (ds_if (dt_cmp (opD_ne hr) mono_eq (dr_of (de_fresh (df_callTy cf_list mono_list (by rfl) t.m_list bt_list (dr_of (de_lend (de_methR t.R t.me_si (fun _ _ _ _ => by rfl) (ok_si t) (mono_si t w s (hr.mono (by decide))) (hr.mono (by decide)) (bi_si t) (takes_of rfl rfl rfl rfl) (pv 2) (dp_sh (de_var 14 (pv 14)) dp_nil) (by rfl) (by rfl) (by rfl))))))) (dr_of (de_fresh (df_lc (by rfl) sc_law.nd (di_tup (de_unp (de_var 13 (pv 13)))) (blk_by (own := [("one", 15), ("row", 16)]) (by rfl)) (sl := ([15] ++ ([16] ++ []))) (by decide) (fun _ _ _ _ _ => (dg_tup (by rfl) (dgs_cons (dg_name 15 (pg_name sc_law.nd rfl (by first | exact .inl rfl | exact .inr rfl))) (dgs_cons (dg_name 16 (pg_name sc_law.nd rfl (by first | exact .inl rfl | exact .inr rfl))) dgs_nil)))) (fun _ _ _ _ _ => (dts_one (dt_cmp (opD_eq hr) mono_eq (dr_of (de_sl (dr_var 16 (pv 16)) (do_some de_int) (do_some de_int))) (dr_of (de_tup (da_cons de_str (da_cons (de_var 14 (pv 14)) da_nil)))) (by rfl)))) (fun _ _ _ _ _ => (de_var 15 (pv 15)))))) (by rfl))
 (dss_one (ds_ret de_bl)) dss_nil)))
 (dss_cons (ds_if (dt_cmp (opD_ne hr) mono_eq (dr_of (de_fresh (df_callTy cf_list mono_list (by rfl) t.m_list bt_list (dr_of (de_lend (de_methR t.R t.me_lt (fun _ _ _ _ => by rfl) (ok_lt t) (mono_lt t w s (hr.mono (by decide))) (hr.mono (by decide)) (bi_lt t) (takes_of rfl rfl rfl rfl) (pv 2) (dp_sh de_str dp_nil) (by rfl) (by rfl) (by rfl))))))) (dr_of (de_fresh (df_lc (by rfl) sc_law.nd (di_tup (de_unp (de_var 13 (pv 13)))) (blk_by (own := [("one", 15), ("row", 16)]) (by rfl)) (sl := ([15] ++ ([16] ++ []))) (by decide) (fun _ _ _ _ _ => (dg_tup (by rfl) (dgs_cons (dg_name 15 (pg_name sc_law.nd rfl (by first | exact .inl rfl | exact .inr rfl))) (dgs_cons (dg_name 16 (pg_name sc_law.nd rfl (by first | exact .inl rfl | exact .inr rfl))) dgs_nil)))) (fun _ _ _ _ _ => (dts_one (dt_cmp (opD_eq hr) mono_eq (dr_of (de_sl (dr_var 16 (pv 16)) (do_some de_int) (do_some de_int))) (dr_of (de_tup (da_cons de_str (da_cons de_str da_nil)))) (by rfl)))) (fun _ _ _ _ _ => (de_var 15 (pv 15)))))) (by rfl))
 (dss_one (ds_ret de_bl)) dss_nil)
 (dss_one (ds_for (passes_of rfl) rfl (di_tup (de_unp (de_var 13 (pv 13)))) (dg_tup (by rfl) (dgs_cons (dg_name 15 (pg_name sc_law.nd rfl (by first | exact .inl rfl | exact .inr rfl))) (dgs_cons (dg_name 16 (pg_name sc_law.nd rfl (by first | exact .inl rfl | exact .inr rfl))) dgs_nil)))
 (dss_cons (ds_ownLc (i := 17) rfl sc_law.nd rfl rfl rfl (di_tup (de_ix (dr_var 16 (pv 16)) (dr_of de_int))) (blk_by (own := [("state", 18), ("there", 19)]) (by rfl)) (sl := ([18] ++ ([19] ++ []))) (by decide) (fun _ _ _ _ _ => (dg_tup (by rfl) (dgs_cons (dg_name 18 (pg_name sc_law.nd rfl (by first | exact .inl rfl | exact .inr rfl))) (dgs_cons (dg_name 19 (pg_name sc_law.nd rfl (by first | exact .inl rfl | exact .inr rfl))) dgs_nil)))) (fun _ _ _ _ _ => dts_nil) (fun _ _ _ _ _ => (de_var 18 (pv 18))))
 (dss_frz 17 (dss_one (ds_if (dt_cmp (opD_ne hr) mono_eq (dr_of (de_lend (de_methR t.R t.me_of (fun _ _ _ _ => by rfl) (ok_of t) (mono_of t w s (hr.mono (by decide))) (hr.mono (by decide)) (bi_of t) (takes_of rfl rfl rfl rfl) (pv 2) (dp_sh (de_var 15 (pv 15)) dp_nil) (by rfl) (by rfl) (by rfl)))) (dr_of (de_tup (da_cons (de_countD hr (de_var 17 (pv 17)) de_str) (da_cons (de_countD hr (de_var 17 (pv 17)) de_str) da_nil)))) (by rfl))
 (dss_one (ds_ret de_bl)) dss_nil))))))))))))
 (dss_one (ds_if (dt_cmp (opD_ne hr) mono_eq (dr_of (de_lend (de_toldB (k := 38) (Ng := N__law_told) (by rfl) t.g__law_told t.f__law_told (bi__law_told t) sc__law_told (by rfl) (.inl (by rfl)) (told_givesB (by rfl) t.x_BadDeed.g (by decide) (fun _ => by rfl)) t.em_BadDeed_BadDeed t.l_law (by rfl) t.lm_law t.lu_law t.ln_law hr (lamS_by (by rfl)) (by rfl) (fun _ _ _ _ _ => by rfl) (fun A outer s H E f c hrL => (de_methR t.R t.me_ti (fun _ _ _ _ => by rfl) (ok_ti t) (mono_ti t w s (hrL.mono (by decide))) (hrL.mono (by decide)) (bi_ti t) (takes_of rfl rfl rfl rfl) (pv 2) (dp_sh (de_tup (da_cons de_int (da_cons de_int (da_cons de_int da_nil)))) (dp_sh de_str dp_nil)) (by rfl) (by rfl) (by rfl)))))) (dr_of de_str) (by rfl))
 (dss_one (ds_ret de_bl)) dss_nil))))
end
section
variable {l : PySem.W.OpenLaw} {w : World} {K : PySem.W.Frag} {h : Heap} {mg : Str → Option Value} {q : Program} {fa : Addr}
/-- what the top has written -/
structure Fc (a : Ad) (K : PySem.W.Frag) : Prop where
  d_is_thing : DefF K "is_thing" s_is_thing a.f_is_thing a.c_is_thing a.d_is_thing
  d__law_dice : DefF K "_law_dice" s__law_dice a.f__law_dice a.c__law_dice a.d__law_dice
  d__law_roll : DefF K "_law_roll" s__law_roll a.f__law_roll a.c__law_roll a.d__law_roll
  d__law_rounds : DefF K "_law_rounds" s__law_rounds a.f__law_rounds a.c__law_rounds a.d__law_rounds
  d__law_told : DefF K "_law_told" s__law_told a.f__law_told a.c__law_told a.d__law_told
  d__law_deed : DefF K "_law_deed" s__law_deed a.f__law_deed a.c__law_deed a.d__law_deed
  d_law : DefF K "law" s_law a.f_law a.c_law a.d_law
  x_BadDeed : ExcF K "BadDeed" a.x_BadDeed
  xe_BadDeed : PySem.W.excIn K a.x_BadDeed [.type "ValueError", .type "Exception", .type "BaseException", .type "object"] "ValueError.__new__" = true
  m_abs : PySem.W.nsIn K mainGlobals "abs" = some none
  m_all : PySem.W.nsIn K mainGlobals "all" = some none
  m_any : PySem.W.nsIn K mainGlobals "any" = some none
  m_bool : PySem.W.nsIn K mainGlobals "bool" = some none
  m_dict : PySem.W.nsIn K mainGlobals "dict" = some none
  m_int : PySem.W.nsIn K mainGlobals "int" = some none
  m_isinstance : PySem.W.nsIn K mainGlobals "isinstance" = some none
  m_len : PySem.W.nsIn K mainGlobals "len" = some none
  m_list : PySem.W.nsIn K mainGlobals "list" = some none
  m_min : PySem.W.nsIn K mainGlobals "min" = some none
  m_range : PySem.W.nsIn K mainGlobals "range" = some none
  m_sorted : PySem.W.nsIn K mainGlobals "sorted" = some none
  m_tuple : PySem.W.nsIn K mainGlobals "tuple" = some none
  em_BadDeed_BadDeed : PySem.W.exmOne K (.ref a.x_BadDeed) (.ref a.x_BadDeed) = some true
  R : RgC K a.C_R
  mk_ri : Mk K a.C_R a.f_ri
  F_ri : FunM K "__init__" "Register.__init__" s_ri a.f_ri a.c_ri a.d_ri
  F_st : FunM K "state" "Register.state" s_st a.f_st a.c_st a.d_st
  F_no : FunM K "note" "Register.note" s_no a.f_no a.c_no a.d_no
  F_go : FunM K "go_on" "Register.go_on" s_go a.f_go a.c_go a.d_go
  F_ti : FunM K "take_in" "Register.take_in" s_ti a.f_ti a.c_ti a.d_ti
  F_pb : FunM K "put_by" "Register.put_by" s_pb a.f_pb a.c_pb a.d_pb
  F_si : FunM K "shown_in" "Register.shown_in" s_si a.f_si a.c_si a.d_si
  F_lt : FunM K "lent_to" "Register.lent_to" s_lt a.f_lt a.c_lt a.d_lt
  F_of : FunM K "often" "Register.often" s_of a.f_of a.c_of a.d_of
  F_sh : FunM K "show" "Register.show" s_sh a.f_sh a.c_sh a.d_sh
  F_le : FunM K "lend" "Register.lend" s_le a.f_le a.c_le a.d_le
  F_lg : FunM K "let_go" "Register.let_go" s_lg a.f_lg a.c_lg a.d_lg
  F_rn : FunM K "rename" "Register.rename" s_rn a.f_rn a.c_rn a.d_rn
  F_un : FunM K "undo" "Register.undo" s_un a.f_un a.c_un a.d_un
  F_re : FunM K "redo" "Register.redo" s_re a.f_re a.c_re a.d_re
  me_st : Meth K a.C_R "state" a.f_st
  me_no : Meth K a.C_R "note" a.f_no
  me_go : Meth K a.C_R "go_on" a.f_go
  me_ti : Meth K a.C_R "take_in" a.f_ti
  me_pb : Meth K a.C_R "put_by" a.f_pb
  me_si : Meth K a.C_R "shown_in" a.f_si
  me_lt : Meth K a.C_R "lent_to" a.f_lt
  me_of : Meth K a.C_R "often" a.f_of
  me_sh : Meth K a.C_R "show" a.f_sh
  me_le : Meth K a.C_R "lend" a.f_le
  me_lg : Meth K a.C_R "let_go" a.f_lg
  me_rn : Meth K a.C_R "rename" a.f_rn
  me_un : Meth K a.C_R "undo" a.f_un
  me_re : Meth K a.C_R "redo" a.f_re
  off : ∀ p ∈ ([a.p_is_thing, a.p_ri] : List Addr), p ∉ ([a.p__law_deed, a.p_law] ++ [] : List Addr)
  offm : ∀ p ∈ ([a.p__law_deed, a.p_law] : List Addr), p ∉ ([a.p_is_thing, a.p_ri] ++ [] : List Addr)
  offl : [a.p__law_deed, a.p_law].Nodup
def tb (a : Ad) : Tb := { tg := [a.p_is_thing, a.p_ri], tl := [(a.p__law_deed, (envOfC "_law_deed" (defScope s__law_deed) 0 0 (.ref 0)).qual ++ "<lambda>"), (a.p_law, (envOfC "law" (defScope s_law) 0 0 (.ref 0)).qual ++ "<lambda>")], tn := [] }
def cs (a : Ad) : List (Addr × Addr) := [(a.c_is_thing, a.p_is_thing), (a.c__law_deed, a.p__law_deed), (a.c_law, a.p_law), (a.c_ri, a.p_ri)]
structure Ft (a : Ad) (K : PySem.W.Frag) (h : Heap) : Prop where
  hd : ∀ p ∈ cs a, PySem.W.codeHdIn K p.1 p.2 = true
  out : ∀ p ∈ cs a, K.lookup p.2 = none
  em : ∀ p ∈ cs a, h.get? p.2 = some { cls := .none, data := .fields #[] }
theorem tx_of {a : Ad} (F : Fc a K) (X : K.In h) (G : h.Ns mainGlobals mg) {base : Heap} (B : ∀ p ∈ cs a, LamX.TabB base mg p.1 p.2) (dc : List Addr) : Tx a K mg base { tb a with dc := dc } := {
  m_abs := PySem.W.mg_none_of X G F.m_abs
  m_all := PySem.W.mg_none_of X G F.m_all
  m_any := PySem.W.mg_none_of X G F.m_any
  m_bool := PySem.W.mg_none_of X G F.m_bool
  m_dict := PySem.W.mg_none_of X G F.m_dict
  m_int := PySem.W.mg_none_of X G F.m_int
  m_isinstance := PySem.W.mg_none_of X G F.m_isinstance
  m_len := PySem.W.mg_none_of X G F.m_len
  m_list := PySem.W.mg_none_of X G F.m_list
  m_min := PySem.W.mg_none_of X G F.m_min
  m_range := PySem.W.mg_none_of X G F.m_range
  m_sorted := PySem.W.mg_none_of X G F.m_sorted
  m_tuple := PySem.W.mg_none_of X G F.m_tuple
  f_is_thing := F.d_is_thing.F
  g_is_thing := PySem.W.mg_of X G F.d_is_thing.ns
  t_is_thing := gxTab (B (a.c_is_thing, a.p_is_thing) (by simp [cs]))
  tm_is_thing := by simp [tb]
  tn_is_thing := F.off a.p_is_thing (by simp)
  f__law_dice := F.d__law_dice.F
  g__law_dice := PySem.W.mg_of X G F.d__law_dice.ns
  f__law_roll := F.d__law_roll.F
  g__law_roll := PySem.W.mg_of X G F.d__law_roll.ns
  f__law_rounds := F.d__law_rounds.F
  g__law_rounds := PySem.W.mg_of X G F.d__law_rounds.ns
  f__law_told := F.d__law_told.F
  g__law_told := PySem.W.mg_of X G F.d__law_told.ns
  f__law_deed := F.d__law_deed.F
  g__law_deed := PySem.W.mg_of X G F.d__law_deed.ns
  l__law_deed := B (a.c__law_deed, a.p__law_deed) (by simp [cs])
  lm__law_deed := by simp [tb]
  lu__law_deed := fun p hp e => by
    have nd := F.offl
    simp only [List.nodup_cons, List.mem_cons, List.not_mem_nil, or_false, not_or] at nd
    simp only [tb, List.mem_cons, List.not_mem_nil, or_false] at hp
    rcases hp with rfl | rfl
    · rfl
    · exact absurd e (by simp_all [eq_comm])
  ln__law_deed := F.offm a.p__law_deed (by simp)
  f_law := F.d_law.F
  g_law := PySem.W.mg_of X G F.d_law.ns
  l_law := B (a.c_law, a.p_law) (by simp [cs])
  lm_law := by simp [tb]
  lu_law := fun p hp e => by
    have nd := F.offl
    simp only [List.nodup_cons, List.mem_cons, List.not_mem_nil, or_false, not_or] at nd
    simp only [tb, List.mem_cons, List.not_mem_nil, or_false] at hp
    rcases hp with rfl | rfl
    · exact absurd e (by simp_all [eq_comm])
    · rfl
  ln_law := F.offm a.p_law (by simp)
  x_BadDeed := ⟨PySem.W.mg_of X G F.x_BadDeed.ns, F.x_BadDeed.kp, F.x_BadDeed.sub, F.x_BadDeed.ty⟩
  xe_BadDeed := F.xe_BadDeed
  em_BadDeed_BadDeed := F.em_BadDeed_BadDeed
  R := F.R
  mk_ri := F.mk_ri
  F_ri := F.F_ri
  F_st := F.F_st
  F_no := F.F_no
  F_go := F.F_go
  F_ti := F.F_ti
  F_pb := F.F_pb
  F_si := F.F_si
  F_lt := F.F_lt
  F_of := F.F_of
  F_sh := F.F_sh
  F_le := F.F_le
  F_lg := F.F_lg
  F_rn := F.F_rn
  F_un := F.F_un
  F_re := F.F_re
  me_st := F.me_st
  me_no := F.me_no
  me_go := F.me_go
  me_ti := F.me_ti
  me_pb := F.me_pb
  me_si := F.me_si
  me_lt := F.me_lt
  me_of := F.me_of
  me_sh := F.me_sh
  me_le := F.me_le
  me_lg := F.me_lg
  me_rn := F.me_rn
  me_un := F.me_un
  me_re := F.me_re
  R_g := PySem.W.mg_of X G F.R.ns
  t_ri := gxTab (B (a.c_ri, a.p_ri) (by simp [cs]))
  tm_ri := by simp [tb]
  tn_ri := F.off a.p_ri (by simp)
}
theorem law_at {a : Ad} (F : Fc a K) (FT : Ft a K h) (X : K.In h) (G : h.Ns mainGlobals mg) (hl : l.prog = PySem.Challenge.pw_museum_k17_a_register_and_its_deeds) (hfa : mg "law" = some (.ref fa))
    (pure_law : ∀ ns : List Int, ns.length ≤ 63 → i_law a (.scr ns :: uns (N_law.length - 1)) (fun d => ∃ ds, d = .list ds ∧ Triples ds ∧ u_law a ((uns N_law.length).set 1 .dice) (lawEnd N_law.length)) (fun _ => False)) :
    LamX.LawAtS l w K (L2.CX l.prog w) 41 63 "script" mg fa h := by
  have e := hfa.symm.trans (PySem.W.mg_of X G F.d_law.ns)
  cases e
  refine ⟨a.d_law, cs a, fun vs H Q _ => ∃ (b : Addr) (ns : List Int), vs = [.ref b] ∧ ns.length ≤ 63 ∧ SqL K H b (ns.map V.int) ∧ TOk (tb a) H ∧ ∀ H', Q (.bl true) H', FT.em, FT.out, fun p hp => PySem.W.codeHd_of_K X (FT.hd p hp), fun s u => ?_, fun H b ns hn _ hc hS => ⟨b, ns, rfl, hn, hS, ⟨fun P hP => ?_, fun p hp => ?_, fun P hP => (by cases hP), fun q hq => (by cases hq), fun q hq => by cases hq⟩, fun _ => rfl⟩, fun base Kb Gb B => ?_⟩
  · obtain ⟨oc, od, kV, doc, pm, an, ct, osl, e, _, _⟩ := F.d_law.F.ex
    rw [e]
    exact .of_eq rfl
  · refine ⟨#[], ?_, trivial⟩
    simp only [tb, List.mem_cons, List.not_mem_nil, or_false] at hP
    rcases hP with rfl | rfl
    · exact hc (a.c_is_thing, a.p_is_thing) (by simp [cs])
    · exact hc (a.c_ri, a.p_ri) (by simp [cs])
  · simp only [tb, List.mem_cons, List.not_mem_nil, or_false] at hp
    rcases hp with rfl | rfl
    · exact LamX.TabS.nil (hc (a.c__law_deed, a.p__law_deed) (by simp [cs]))
    · exact LamX.TabS.nil (hc (a.c_law, a.p_law) (by simp [cs]))
  · have t := fun dc => tx_of F X G B dc
    rw [hl]
    exact law_okD (T := tb a) (k := 40) (i := 1) (wi := i_law a) (bw := u_law a) F.d_law.F sc_law (by decide) (by decide) rfl rfl (fun A outer s H E hr => di_law (t []) A outer s H E hr) (fun A outer s H E => pg_name sc_law.nd rfl (by first | exact .inl rfl | exact .inr rfl)) (fun A outer s H E dc hr => dd_law (t dc) rfl A outer s H E hr) (fun _ _ _ _ _ _ => rfl) pure_law
end
end M17
set_option Elab.async false
set_option linter.all false
set_option maxRecDepth 100000
set_option maxHeartbeats 1000000
namespace M17
open PySem PySem.Spec PyProof.Rows L2 PL
theorem sz3 : 3 ≤ sizeLine := by rw [sizeLine_eq]; decide
theorem p_dice (a : Ad) (c : Int) (Q : PyData → Prop) (E : Exn → Prop) (h : ∀ x y z : Int, Q (.list [.int x, .int y, .int z])) : c__law_dice a [.sh (.int c)] Q E := by
  have s3 := sz3
  show u__law_dice a [.sh (.int c)] _
  simp only [u__law_dice, sSeq, sIf, sRet, sNil, wT, wCh, w2, wC, wVar, wRd, fC, fI, wLst, wCons, wNil, w1, fAbs, fAdd, fInt, CT, List.getElem?_cons_zero]
  refine ⟨trivial, ?_⟩
  have last : CPow 10 18 ∧ ([PyData.int c, PyData.int (1 + c % 1009), PyData.int (if (decide ((10:Int) ^ Int.toNat 18 ≤ c)) = true then 1 else 0)].length ≤ sizeLine ∧ Q (.list [.int c, .int (1 + c % 1009), .int (if (decide ((10:Int) ^ Int.toNat 18 ≤ c)) = true then 1 else 0)])) := ⟨⟨by decide, by decide, by decide⟩, s3, h _ _ _⟩
  by_cases e1 : (0:Int) - 10 < c
  · simp only [decide_eq_true e1]
    by_cases e2 : c < (10:Int)
    · simp only [decide_eq_true e2, if_true]
      exact ⟨s3, h _ _ _⟩
    · simp only [decide_eq_false e2]
      exact ⟨by decide, last⟩
  · simp only [decide_eq_false e1]
    exact ⟨by decide, last⟩
theorem p_roll (a : Ad) (n : Int) (Q : PyData → Prop) (E : Exn → Prop) (h0 : 0 < n) (h1 : n < 1073741824) (h : ∀ r : Int, 0 ≤ r → r < n → Q (.int r)) : c__law_roll a [.dice, .sh (.int n)] Q E := by
  show u__law_roll a [.dice, .sh (.int n), .un] _
  have hm : ∀ x : Int, Q (.int (x % n)) := fun x => h _ (Int.emod_nonneg _ (by omega)) (Int.emod_lt_of_pos _ h0)
  have pl : ∀ i : Int, Pl (.int i) := fun i => ⟨rfl, Nat.zero_le _⟩
  have rest : sSeq (sDst 0 2 (wC (.int 0))) (sSeq (sDst 0 0 (w2 (fI (fun _ j => 0 < j) fun i j => i % j) (w1 fInt (w2 fAdd (w2 fAdd (w2 fMul (wDix 0 0) (wC (.int 48271))) (w2 fMul (wDix 0 1) (wC (.int 69621)))) (wC (.int 11)))) (wC (.int 2147483647))))
      (sSeq (sDst 0 1 (w2 fAdd (wDix 0 1) (wC (.int 1)))) (sRet (w2 (fI (fun _ j => 0 < j) fun i j => i % j) (w1 fInt (w2 fAdd (w2 (fI CDiv fun i j => i / j) (wDix 0 0) (wC (.int 7))) (wDix 0 0))) (wRd 1))))) [.dice, .sh (.int n), .un] { nx := fun _ => Q .none, rt := Q, ex := E } := by
    refine ⟨rfl, by decide, rfl, by decide, rfl, by decide, fun x => ⟨.inr ⟨by decide, by decide⟩, ?_⟩⟩
    refine ⟨rfl, by decide, fun y => ⟨.inr ⟨by decide, by decide⟩, ?_⟩⟩
    refine ⟨(by decide : (0:Int) < 2147483647), rfl, by decide, rfl, by decide, fun z => ?_⟩
    refine ⟨rfl, by decide, fun u => ⟨⟨by decide, by decide⟩, ?_⟩⟩
    exact ⟨rfl, by decide, fun v => ⟨h0, hm _⟩⟩
  refine ⟨rfl, by decide, fun x => ⟨⟨pl _, pl _⟩, ?_⟩⟩
  have first : ∀ D, sSeq (sSet 2 (w2 (fI (fun _ j => 0 < j) fun i j => i % j) (w1 fInt (wDix 0 0)) (wRd 1))) (sSeq (sDst 0 0 (w2 (fI CDiv fun i j => i / j) (wDix 0 0) (wRd 1))) (sRet (wVar 2))) [.dice, .sh (.int n), .un] { nx := D, rt := Q, ex := E } := fun D =>
    ⟨rfl, by decide, fun y => ⟨h0, rfl, by decide, rfl, by decide, fun z => ⟨⟨h0, h1⟩, hm _⟩⟩⟩
  by_cases e : PyData.eqv (.int x) (.int 2) = true
  · rw [if_neg (by decide), e]
    exact first _
  · rw [if_neg (by decide), Bool.eq_false_iff.mpr e]
    refine ⟨rfl, by decide, fun y => ⟨⟨pl _, pl _⟩, ?_⟩⟩
    by_cases e' : PyData.eqv (.int y) (.int 1) = true
    · rw [if_neg (by decide), e']
      refine ⟨rfl, by decide, fun z => ?_⟩
      by_cases e'' : 0 < z
      · show if decide (0 < z) = true then _ else _
        rw [if_pos (decide_eq_true e'')]
        exact first _
      · show if decide (0 < z) = true then _ else _
        rw [if_neg (by rw [decide_eq_false e'']; decide)]
        exact rest
    · rw [if_neg (by decide), Bool.eq_false_iff.mpr e']
      exact rest
theorem plainAll_ints : ∀ ns : List Int, PyData.plainAll (ns.map .int) = true
  | [] => rfl
  | n :: r => by
    show (PyData.plain (.int n) && PyData.plainAll (r.map .int)) = true
    rw [plainAll_ints r]
    rfl
theorem depthAll_ints : ∀ ns : List Int, PyData.depthAll (ns.map .int) ≤ 1
  | [] => Nat.zero_le _
  | n :: r => by
    have := depthAll_ints r
    simp only [List.map_cons, PyData.depthAll, PyData.depth]
    omega
theorem Pl_ints (ns : List Int) : Pl (.list (ns.map .int)) := ⟨plainAll_ints ns, by
  have := depthAll_ints ns
  simp only [PyData.depth]
  omega⟩
theorem cutD_map (ns : List Int) (lo hi : Option Int) : ∃ ms : List Int, PL.cutD (ns.map .int) lo hi = ms.map .int ∧ ms.length ≤ ns.length := by
  unfold PL.cutD
  rw [← List.map_drop, ← List.map_take]
  exact ⟨_, rfl, by rw [List.length_take, List.length_drop]; omega⟩
theorem lc_dice (a : Ad) {ρw : En} {ns : List Int} {x y : PyData} (hρ : ρw = [.scr ns, .sh x, .sh y, .un]) (Q : List PyData → Prop) (h : ∀ ds, Triples ds → Q ds) : ∀ (ms : List Int) (acc : List PyData), Triples acc → acc.length + ms.length < 1000 →
    goLc (gNameD 3) wYes (wCall 1 (c__law_dice a) (wpSh (wVar 3) wpNil)) ρw (ms.map .int) acc Q
  | [], acc, t, _ => h acc t
  | m :: r, acc, t, hl => by
    subst hρ
    rw [List.length_cons] at hl
    refine ⟨rfl, p_dice a m _ _ fun x y z => ⟨?_, lc_dice a rfl Q h r _ (fun d hd => ?_) ?_⟩⟩
    · rw [sizeLine_eq]; omega
    · rcases List.mem_append.mp hd with hd | hd
      · exact t d hd
      · rw [List.mem_singleton.mp hd]; exact ⟨x, y, z, rfl⟩
    · rw [List.length_append]
      simp only [List.length_cons, List.length_nil]
      omega
theorem p_rounds (a : Ad) (ns : List Int) (k : Int) (hn : ns.length ≤ 63) (Q : PyData → Prop) (E : Exn → Prop) (h : ∀ ds, Triples ds → Q (.list ds)) : c__law_rounds a [.scr ns, .sh (.int k)] Q E := by
  show u__law_rounds a [.scr ns, .sh (.int k), .un, .un] _
  obtain ⟨ms, e, hm⟩ := cutD_map ns none (some k)
  have fin : ∀ ms : List Int, ms.length ≤ 63 → sRet (wLc (wItL (wVar 2)) (gNameD 3) wYes (wCall 1 (c__law_dice a) (wpSh (wVar 3) wpNil)) [3]) [.scr ns, .sh (.int k), .sh (.list (ms.map .int)), .un] { nx := fun _ => Q .none, rt := Q, ex := E } := fun ms hm => by
    refine ⟨fun i hi s hs => ?_, lc_dice a rfl _ h ms [] (fun d hd => by cases hd) (by simp only [List.length_nil]; omega)⟩
    rw [List.mem_singleton.mp hi] at hs
    cases hs
    rfl
  have rest : sSeq (sIf (wT (w2 (fEq false) (wRd 2) (wLst wNil))) (sSet 2 (wLst (wCons (wC (.int 0)) wNil))) sNil) (sRet (wLc (wItL (wVar 2)) (gNameD 3) wYes (wCall 1 (c__law_dice a) (wpSh (wVar 3) wpNil)) [3]))
      [.scr ns, .sh (.int k), .sh (.list (ms.map .int)), .un] { nx := fun _ => Q .none, rt := Q, ex := E } := by
    refine ⟨Nat.zero_le _, ⟨Pl_ints ms, Pl_ints []⟩, ?_⟩
    show if PyData.eqv (.list (ms.map .int)) (.list []) = true then _ else _
    by_cases c : PyData.eqv (.list (ms.map .int)) (.list []) = true
    · rw [if_pos c]
      exact ⟨by rw [sizeLine_eq]; decide, fin [0] (by decide)⟩
    · rw [if_neg c]
      exact fin ms (by omega)
  rw [← e] at rest
  exact ⟨ns, rfl, rest⟩
end M17
set_option Elab.async false
set_option linter.all false
set_option maxRecDepth 100000
set_option maxHeartbeats 1000000
namespace S17
open PySem PySem.Spec PyProof.Rows L2 PL
structure Rw where
  nm : Str
  st : Str
  pl : PyData
  ps : List (Str × PyData)
abbrev Tab := List (Nat × Rw)
def pD (p : Str × PyData) : PyData := .tuple [.str p.1, p.2]
def rD (r : Rw) : PyData := .tuple [.str r.nm, .str r.st, r.pl, .tuple (r.ps.map pD)]
def kZ (k : Nat) : List Int := [1900, 0, (k : Int)]
def enc (p : Nat × Rw) : List Int × PyData := (kZ p.1, rD p.2)
def itE (p : Nat × Rw) : PyData := itemI (enc p)
def Sc (d : PyData) : Prop := d = .none ∨ (∃ i, d = .int i) ∨ ∃ s, d = .str s
structure RwOk (n : Nat) (r : Rw) : Prop where
  pl : Sc r.pl
  ps : ∀ p ∈ r.ps, Sc p.2
  len : r.ps.length ≤ n
def lk (ts : Tab) (k : Nat) : Option Rw := (ts.find? fun p => decide (p.1 = k)).map (·.2)
def put (ts : Tab) (k : Nat) (r : Rw) : Tab := if (ts.any fun p => decide (p.1 = k)) = true then ts.map (fun p => if p.1 = k then (p.1, r) else p) else ts ++ [(k, r)]
structure TbOk (n : Nat) (ts : Tab) : Prop where
  nd : (ts.map (·.1)).Nodup
  lt : ∀ p ∈ ts, p.1 < 3
  ok : ∀ p ∈ ts, RwOk n p.2
def srt (ts : Tab) : Tab := (List.range 3).filterMap fun k => (lk ts k).map fun r => (k, r)
theorem kZ_inj {a b : Nat} (h : kZ a = kZ b) : a = b := by
  unfold kZ at h
  injection h with _ h
  injection h with _ h
  injection h with h _
  omega
theorem ikZ_inj {a b : Nat} (h : ik (kZ a) = ik (kZ b)) : a = b := kZ_inj (ik_inj _ _ h)
theorem put_map {κ : Type} [DecidableEq κ] (f : Nat → κ) (hf : ∀ a b, f a = f b → a = b) (ts : Tab) (k : Nat) (r : Rw) : putD (ts.map fun p => (f p.1, rD p.2)) (f k) (rD r) = (put ts k r).map fun p => (f p.1, rD p.2) := by
  have e : ∀ p : Nat × Rw, decide (f p.1 = f k) = decide (p.1 = k) := fun p => by
    by_cases z : p.1 = k
    · rw [z]; simp
    · rw [decide_eq_false z, decide_eq_false fun y => z (hf _ _ y)]
  unfold putD put
  rw [List.any_map]
  have e2 : (ts.any ((fun p : κ × PyData => decide (p.1 = f k)) ∘ fun p => (f p.1, rD p.2))) = ts.any fun p => decide (p.1 = k) := by
    congr 1
    funext p
    exact e p
  rw [e2]
  split
  · rw [List.map_map, List.map_map]
    refine List.map_congr_left fun p _ => ?_
    show (if f p.1 = f k then _ else _) = _
    by_cases z : p.1 = k
    · simp [z]
    · rw [if_neg fun y => z (hf _ _ y)]
      show _ = (fun p : Nat × Rw => (f p.1, rD p.2)) (if p.1 = k then (p.1, r) else p)
      rw [if_neg z]
  · rw [List.map_append]; rfl
theorem lk_map {κ : Type} [DecidableEq κ] (f : Nat → κ) (hf : ∀ a b, f a = f b → a = b) (ts : Tab) (k : Nat) : lookK (ts.map fun p => (f p.1, rD p.2)) (f k) = (lk ts k).map rD := by
  unfold lookK lk
  induction ts with
  | nil => rfl
  | cons p r ih =>
    rw [List.map_cons, List.find?_cons, List.find?_cons]
    by_cases z : p.1 = k
    · simp [z]
    · have : ¬ f p.1 = f k := fun y => z (hf _ _ y)
      simp only [z, this, decide_false]
      exact ih
theorem put_enc (ts : Tab) (k : Nat) (r : Rw) : putD (ts.map enc) (kZ k) (rD r) = (put ts k r).map enc := put_map kZ (fun _ _ => kZ_inj) ts k r
theorem lk_enc (ts : Tab) (k : Nat) : lookK (ts.map enc) (kZ k) = (lk ts k).map rD := lk_map kZ (fun _ _ => kZ_inj) ts k
theorem lk_put_same (ts : Tab) (k : Nat) (r : Rw) : lk (put ts k r) k = some r := by
  unfold lk put
  split
  · rename_i c
    induction ts with
    | nil => cases c
    | cons p t ih =>
      rw [List.map_cons, List.find?_cons]
      by_cases z : p.1 = k
      · simp [z]
      · rw [List.any_cons, decide_eq_false z, Bool.false_or] at c
        simp only [z, if_false, decide_false]
        exact ih c
  · rename_i c
    rw [List.find?_append]
    have : ts.find? (fun p => decide (p.1 = k)) = none := by
      rw [List.find?_eq_none]
      intro p hp e
      exact c (List.any_eq_true.mpr ⟨p, hp, e⟩)
    rw [this]
    simp
theorem lk_put_ne (ts : Tab) (k j : Nat) (r : Rw) (h : j ≠ k) : lk (put ts k r) j = lk ts j := by
  unfold lk put
  split
  · rename_i c
    clear c
    induction ts with
    | nil => rfl
    | cons p t ih =>
      rw [List.map_cons, List.find?_cons, List.find?_cons]
      by_cases z : p.1 = k
      · have : ¬ p.1 = j := fun y => h (y.symm.trans z)
        have z2 : ¬ k = j := fun y => h y.symm
        simp only [z, if_true, z2, decide_false]
        exact ih
      · simp only [z, if_false]
        by_cases y : p.1 = j
        · simp [y]
        · simp only [y, decide_false]
          exact ih
  · rw [List.find?_append]
    cases (ts.find? fun p => decide (p.1 = j)) with
    | none => simp [Ne.symm h]
    | some p => rfl
theorem lk_put (ts : Tab) (k j : Nat) (r : Rw) : lk (put ts k r) j = if j = k then some r else lk ts j := by
  by_cases h : j = k
  · subst h; rw [if_pos rfl, lk_put_same]
  · rw [if_neg h, lk_put_ne _ _ _ _ h]
theorem range3 : List.range 3 = [0, 1, 2] := by decide
theorem lk_mem {ts : Tab} {k : Nat} {r : Rw} (h : lk ts k = some r) : (k, r) ∈ ts := by
  unfold lk at h
  cases e : ts.find? fun p => decide (p.1 = k) with
  | none => rw [e] at h; cases h
  | some p =>
    rw [e] at h
    cases h
    have h1 := List.mem_of_find?_eq_some e
    have h2 : p.1 = k := by have := List.find?_some e; simpa using this
    rw [← h2]; exact h1
theorem mem_lk {ts : Tab} (nd : (ts.map (·.1)).Nodup) {k : Nat} {r : Rw} (h : (k, r) ∈ ts) : lk ts k = some r := by
  unfold lk
  induction ts with
  | nil => cases h
  | cons p t ih =>
    rw [List.map_cons, List.nodup_cons] at nd
    rw [List.find?_cons]
    rcases List.mem_cons.mp h with h | h
    · rw [← h]; simp
    · have : ¬ p.1 = k := fun z => nd.1 (List.mem_map.mpr ⟨(k, r), h, z.symm⟩)
      simp only [this, decide_false]
      exact ih nd.2 h
theorem mem_srt {ts : Tab} {p : Nat × Rw} : p ∈ srt ts ↔ p.1 < 3 ∧ lk ts p.1 = some p.2 := by
  unfold srt
  rw [List.mem_filterMap]
  constructor
  · rintro ⟨k, hk, e⟩
    rw [List.mem_range] at hk
    cases h : lk ts k with
    | none => rw [h] at e; cases e
    | some r => rw [h] at e; cases e; exact ⟨hk, h⟩
  · rintro ⟨h1, h2⟩
    exact ⟨p.1, List.mem_range.mpr h1, by rw [h2]; rfl⟩
theorem srt_rise (ts : Tab) : (srt ts).Pairwise fun a b => a.1 < b.1 := by
  unfold srt
  rw [range3]
  simp only [List.filterMap]
  generalize lk ts 0 = a
  generalize lk ts 1 = b
  generalize lk ts 2 = c
  cases a <;> cases b <;> cases c <;> simp
theorem srt_nd (ts : Tab) : ((srt ts).map (·.1)).Nodup := by
  refine List.pairwise_map.mpr ((srt_rise ts).imp fun h => ?_)
  omega
theorem lk_srt {ts : Tab} {k : Nat} (hk : k < 3) : lk (srt ts) k = lk ts k := by
  cases h : lk ts k with
  | some r => exact mem_lk (srt_nd ts) (mem_srt.mpr ⟨hk, h⟩)
  | none =>
    cases h2 : lk (srt ts) k with
    | none => rfl
    | some r =>
      have := (mem_srt.mp (lk_mem h2)).2
      rw [h] at this
      cases this
theorem srt_congr {ts us : Tab} (h : ∀ k < 3, lk ts k = lk us k) : srt ts = srt us := by
  unfold srt
  rw [range3]
  simp only [List.filterMap, h 0 (by omega), h 1 (by omega), h 2 (by omega)]
theorem srt_srt (ts : Tab) : srt (srt ts) = srt ts := srt_congr fun k hk => lk_srt hk
theorem srt_put (ts : Tab) (k : Nat) (r : Rw) : srt (put (srt ts) k r) = srt (put ts k r) := srt_congr fun j hj => by rw [lk_put, lk_put, lk_srt hj]
theorem TbOk.srt {n : Nat} {ts : Tab} (h : TbOk n ts) : TbOk n (srt ts) := ⟨srt_nd ts, fun p hp => (mem_srt.mp hp).1, fun p hp => h.ok _ (lk_mem (mem_srt.mp hp).2)⟩
theorem RwOk.more {n m : Nat} {r : Rw} (h : RwOk n r) (le : n ≤ m) : RwOk m r := ⟨h.pl, h.ps, Nat.le_trans h.len le⟩
theorem TbOk.more {n m : Nat} {ts : Tab} (h : TbOk n ts) (le : n ≤ m) : TbOk m ts := ⟨h.nd, h.lt, fun p hp => (h.ok p hp).more le⟩
theorem put_keys (ts : Tab) (k : Nat) (r : Rw) : (put ts k r).map (·.1) = if (ts.any fun p => decide (p.1 = k)) = true then ts.map (·.1) else ts.map (·.1) ++ [k] := by
  unfold put
  split
  · rw [List.map_map]
    refine List.map_congr_left fun p _ => ?_
    show (if p.1 = k then (p.1, r) else p).1 = p.1
    split <;> rfl
  · rw [List.map_append]; rfl
theorem TbOk.put {n : Nat} {ts : Tab} (h : TbOk n ts) {k : Nat} {r : Rw} (hk : k < 3) (hr : RwOk n r) : TbOk n (put ts k r) := by
  refine ⟨?_, fun p hp => ?_, fun p hp => ?_⟩
  · rw [put_keys]
    split
    · exact h.nd
    · rename_i c
      refine List.nodup_append.mpr ⟨h.nd, by simp, fun a ha b hb => ?_⟩
      rw [List.mem_singleton] at hb
      subst hb
      intro e
      subst e
      obtain ⟨p, hp, rfl⟩ := List.mem_map.mp ha
      exact c (List.any_eq_true.mpr ⟨p, hp, decide_eq_true rfl⟩)
  · unfold S17.put at hp
    split at hp
    · obtain ⟨q, hq, rfl⟩ := List.mem_map.mp hp
      split
      · show q.1 < 3
        exact h.lt _ hq
      · exact h.lt _ hq
    · rcases List.mem_append.mp hp with hp | hp
      · exact h.lt _ hp
      · rw [List.mem_singleton.mp hp]; exact hk
  · unfold S17.put at hp
    split at hp
    · obtain ⟨q, hq, rfl⟩ := List.mem_map.mp hp
      split
      · exact hr
      · exact h.ok _ hq
    · rcases List.mem_append.mp hp with hp | hp
      · exact h.ok _ hp
      · rw [List.mem_singleton.mp hp]; exact hr
theorem srt_perm {n : Nat} {ts : Tab} (h : TbOk n ts) : ts.Perm (srt ts) :=
  (List.perm_ext_iff_of_nodup (nodup_un h.nd) (nodup_un (srt_nd ts))).mpr fun p => ⟨fun hp => mem_srt.mpr ⟨h.lt p hp, mem_lk h.nd hp⟩, fun hp => lk_mem (mem_srt.mp hp).2⟩
theorem TbOk.len {n : Nat} {ts : Tab} (h : TbOk n ts) : ts.length ≤ 3 := by
  rw [(srt_perm h).length_eq]
  exact List.length_filterMap_le _ _
theorem lt_keyZ (a b : Nat) : PySem.W.dataLt (keyI (kZ a)) (keyI (kZ b)) = decide (a < b) := by
  have e : ∀ c : Nat, PySem.W.keyToks (keyI (kZ c)) = [.inl 1, .inl 1900, .inl 1, .inl 0, .inl 1, .inl (c : Int), .inl 0] := fun c => rfl
  unfold PySem.W.dataLt
  rw [e, e, lex_self, lex_self, lex_self, lex_self, lex_self]
  by_cases z : a = b
  · subst z
    rw [lex_self, lex_self, decide_eq_false (Nat.lt_irrefl a)]
    rfl
  · rw [lex_diff (O := itemOrd) (fun e => z (by injection e with e; omega))]
    show decide ((a : Int) < (b : Int)) = _
    by_cases y : a < b
    · rw [decide_eq_true y, decide_eq_true (by omega)]
    · rw [decide_eq_false y, decide_eq_false (by omega)]
theorem sort_tab {n : Nat} {ts : Tab} (h : TbOk n ts) : ts.mergeSort (fun a b => decide (a.1 ≤ b.1)) = srt ts := by
  have h1 := List.pairwise_mergeSort (le := fun (a b : Nat × Rw) => decide (a.1 ≤ b.1)) (fun a b c x y => by simp only [decide_eq_true_eq] at *; omega) (fun a b => by simp only [Bool.or_eq_true, decide_eq_true_eq]; omega) ts
  have h2 : (srt ts).Pairwise (fun a b => decide (a.1 ≤ b.1) = true) := (srt_rise ts).imp fun h => decide_eq_true (by omega)
  have p1 : (ts.mergeSort fun a b => decide (a.1 ≤ b.1)).Perm ts := List.mergeSort_perm _ _
  have p2 := srt_perm h
  refine List.Perm.eq_of_pairwise (fun a b ha hb x y => ?_) h1 h2 (p1.trans p2)
  simp only [decide_eq_true_eq] at x y
  have ha : a ∈ ts := p1.mem_iff.mp ha
  have hb : b ∈ ts := p2.mem_iff.mpr hb
  have e : a.1 = b.1 := by omega
  have h3 := mem_lk h.nd (k := a.1) (r := a.2) ha
  have h4 := mem_lk h.nd (k := b.1) (r := b.2) hb
  rw [e, h4] at h3
  cases a
  cases b
  simp only at e h3
  subst e
  cases h3
  rfl
theorem sort_enc {n : Nat} {ts : Tab} (h : TbOk n ts) : (ts.map enc).mergeSort (PySem.W.dataLe false fun p => keyI p.1) = (srt ts).map enc := by
  rw [← sort_tab h]
  refine (List.map_mergeSort (f := enc) fun a _ b _ => ?_).symm
  show decide (a.1 ≤ b.1) = !PySem.W.dataLt (keyI (kZ b.1)) (keyI (kZ a.1))
  rw [lt_keyZ, ← decide_not]
  simp
theorem sort_keys {n : Nat} {ts : Tab} (h : TbOk n ts) : (ts.map fun p => kZ p.1).mergeSort (PySem.W.dataLe false keyI) = (srt ts).map fun p => kZ p.1 := by
  rw [← sort_tab h]
  refine (List.map_mergeSort (f := fun p : Nat × Rw => kZ p.1) fun a _ b _ => ?_).symm
  show decide (a.1 ≤ b.1) = !PySem.W.dataLt (keyI (kZ b.1)) (keyI (kZ a.1))
  rw [lt_keyZ, ← decide_not]
  simp
theorem sc_plain {d : PyData} (h : Sc d) : d.plain = true ∧ d.depth = 0 := by rcases h with rfl | ⟨i, rfl⟩ | ⟨s, rfl⟩ <;> exact ⟨rfl, rfl⟩
theorem all_plain {xs : List PyData} (m : Nat) (h : ∀ x ∈ xs, x.plain = true ∧ x.depth ≤ m) : PyData.plainAll xs = true ∧ PyData.depthAll xs ≤ m + 1 := by
  induction xs with
  | nil => exact ⟨rfl, Nat.zero_le _⟩
  | cons x r ih =>
    obtain ⟨h1, h2⟩ := ih fun y hy => h y (List.mem_cons_of_mem _ hy)
    obtain ⟨h3, h4⟩ := h x List.mem_cons_self
    refine ⟨by rw [PyData.plainAll, h3, h1]; rfl, ?_⟩
    rw [PyData.depthAll]
    omega
theorem tup_plain {xs : List PyData} (m : Nat) (h : ∀ x ∈ xs, x.plain = true ∧ x.depth ≤ m) : (PyData.tuple xs).plain = true ∧ (PyData.tuple xs).depth ≤ m + 2 := by
  obtain ⟨h1, h2⟩ := all_plain m h
  refine ⟨by rw [PyData.plain]; exact h1, ?_⟩
  rw [PyData.depth]
  omega
theorem lst_plain {xs : List PyData} (m : Nat) (h : ∀ x ∈ xs, x.plain = true ∧ x.depth ≤ m) : (PyData.list xs).plain = true ∧ (PyData.list xs).depth ≤ m + 2 := by
  obtain ⟨h1, h2⟩ := all_plain m h
  refine ⟨by rw [PyData.plain]; exact h1, ?_⟩
  rw [PyData.depth]
  omega
theorem pD_plain {p : Str × PyData} (h : Sc p.2) : (pD p).plain = true ∧ (pD p).depth ≤ 2 := tup_plain 0 fun x hx => by
  simp only [List.mem_cons, List.not_mem_nil, or_false] at hx
  rcases hx with rfl | rfl
  · exact ⟨rfl, Nat.zero_le _⟩
  · have := sc_plain h; exact ⟨this.1, by omega⟩
theorem rD_plain {n : Nat} {r : Rw} (h : RwOk n r) : (rD r).plain = true ∧ (rD r).depth ≤ 6 := tup_plain 4 fun x hx => by
  simp only [List.mem_cons, List.not_mem_nil, or_false] at hx
  rcases hx with rfl | rfl | rfl | rfl
  · exact ⟨rfl, Nat.zero_le _⟩
  · exact ⟨rfl, Nat.zero_le _⟩
  · have := sc_plain h.pl; exact ⟨this.1, by omega⟩
  · exact tup_plain 2 fun x hx => by
      obtain ⟨p, hp, rfl⟩ := List.mem_map.mp hx
      exact pD_plain (h.ps p hp)
theorem keyI_plain (k : List Int) : (keyI k).plain = true ∧ (keyI k).depth ≤ 1 := ⟨plain_ints k, depth_keyI k⟩
theorem itE_plain {n : Nat} {p : Nat × Rw} (h : RwOk n p.2) : (itE p).plain = true ∧ (itE p).depth ≤ 8 := tup_plain 6 fun x hx => by
  simp only [List.mem_cons, List.not_mem_nil, or_false] at hx
  rcases hx with rfl | rfl
  · have := keyI_plain (kZ p.1); exact ⟨this.1, by have := this.2; show (keyI (kZ p.1)).depth ≤ 6; omega⟩
  · exact rD_plain h
theorem tab_plain {n : Nat} {ts : Tab} (h : TbOk n ts) : (PyData.tuple (ts.map itE)).plain = true ∧ (PyData.tuple (ts.map itE)).depth ≤ 10 := tup_plain 8 fun x hx => by
  obtain ⟨p, hp, rfl⟩ := List.mem_map.mp hx
  exact itE_plain (h.ok p hp)
theorem Pl_rD {n : Nat} {r : Rw} (h : RwOk n r) : Pl (rD r) := ⟨(rD_plain h).1, by have := (rD_plain h).2; omega⟩
theorem Pl_tab {n : Nat} {ts : Tab} (h : TbOk n ts) : Pl (.tuple (ts.map itE)) := ⟨(tab_plain h).1, by have := (tab_plain h).2; omega⟩
theorem Pl_sc {d : PyData} (h : Sc d) : Pl d := ⟨(sc_plain h).1, by have := (sc_plain h).2; omega⟩
theorem eqv_same {d : PyData} (h : Pl d) : PyData.eqv d d = true := PySem.SeqAt.eqv_refl_plain d h.1
theorem NK_tab (ts : Tab) : NK (ts.map itE) := by
  cases ts with
  | nil => exact .inl rfl
  | cons p r => exact .inr ⟨itE p, List.mem_cons_self, fun k e => by cases k <;> cases e⟩
theorem rows_tab {n : Nat} {ts : Tab} (h : TbOk n ts) : RowsI (ptM (ts.map itE)) (ts.map enc) := by
  refine ⟨by rw [List.map_map]; rfl, ?_, fun p hp => ?_⟩
  · rw [List.map_map]
    show (ts.map fun p => kZ p.1).Nodup
    rw [show (ts.map fun p => kZ p.1) = (ts.map (·.1)).map kZ by rw [List.map_map]; rfl]
    exact h.nd.map kZ fun a b ne e => ne (kZ_inj e)
  · obtain ⟨q, _, rfl⟩ := List.mem_map.mp hp
    exact fun e => by cases e
end S17
set_option Elab.async false
set_option linter.all false
set_option maxRecDepth 100000
set_option maxHeartbeats 1000000
namespace M17
open PySem PySem.Spec PyProof.Rows L2 PL S17
def Is (w : PW) (ρ : En) (x : PyData) : Prop := ∀ Q E, Q x → w ρ Q E
def IsB (t : PWB) (ρ : En) (b : Bool) : Prop := ∀ Q E, Q b → t ρ Q E
def IsS (w : PWs) (ρ : En) (xs : List PyData) : Prop := ∀ Q E, Q xs → w ρ Q E
def IsP (w : PWp) (ρ : En) (ss : List Sl) : Prop := ∀ Q E, Q ss → w ρ Q E
def Rz (w : PW) (ρ : En) (C : Addr) : Prop := ∀ (Q : PyData → Prop) (E : Exn → Prop), E ⟨C, none⟩ → w ρ Q E
section
variable {ρ : En} {u v w : PW} {s t : PWB} {ws : PWs} {i j k : Nat} {x y z d : PyData} {xs ys : List PyData} {b c : Bool} {C : Addr}
theorem Is.var (h : ρ[i]? = some (.sh x)) : Is (wVar i) ρ x := fun Q E q => by unfold wVar; rw [h]; exact q
theorem Is.rd (h : ρ[i]? = some (.sh x)) : Is (wRd i) ρ x := fun Q E q => by unfold wRd; rw [h]; exact q
theorem Is.cst : Is (wC x) ρ x := fun Q E q => q
theorem IsS.nil : IsS wNil ρ [] := fun Q E q => q
theorem IsS.cons (h : Is w ρ x) (r : IsS ws ρ xs) : IsS (wCons w ws) ρ (x :: xs) := fun Q E q => h _ _ (r _ _ q)
theorem Is.tup (h : IsS ws ρ xs) (hl : xs.length ≤ 100000 := by first | decide | (simp only [List.length_cons, List.length_nil]; omega)) : Is (wTup ws) ρ (.tuple xs) := fun Q E q => h _ _ ⟨U.le_size hl, q⟩
theorem Is.lst (h : IsS ws ρ xs) (hl : xs.length ≤ 100000 := by first | decide | (simp only [List.length_cons, List.length_nil]; omega)) : Is (wLst ws) ρ (.list xs) := fun Q E q => h _ _ ⟨U.le_size hl, q⟩
theorem Is.ixT {n : Int} (hu : Is u ρ (.tuple xs)) (hv : Is v ρ (.int n)) (h : atI xs n = some d) : Is (w2 fIx u v) ρ d := fun Q E q => hu _ _ (hv _ _ (by show (match atI xs n with | some d => Q d | none => False); rw [h]; exact q))
theorem Is.ixL {n : Int} (hu : Is u ρ (.list xs)) (hv : Is v ρ (.int n)) (h : atI xs n = some d) : Is (w2 fIx u v) ρ d := fun Q E q => hu _ _ (hv _ _ (by show (match atI xs n with | some d => Q d | none => False); rw [h]; exact q))
theorem Is.eq {n : Bool} (hu : Is u ρ x) (hv : Is v ρ y) (px : Pl x) (py : Pl y) : Is (w2 (fEq n) u v) ρ (.bool (if n then !PyData.eqv x y else PyData.eqv x y)) := fun Q E q => hu _ _ (hv _ _ ⟨⟨px, py⟩, q⟩)
theorem Is.inT {n : Bool} (hu : Is u ρ x) (hv : Is v ρ (.tuple ys)) (px : Pl x) (py : Pl (.tuple ys)) : Is (w2 (fIn n) u v) ρ (.bool (if n then !(ys.any fun z => PyData.eqv z x) else ys.any fun z => PyData.eqv z x)) := fun Q E q => hu _ _ (hv _ _ ((by
  have r : (Pl x ∧ Pl (.tuple ys)) ∧ Q (.bool (if n then !(ys.any fun z => PyData.eqv z x) else ys.any fun z => PyData.eqv z x)) := ⟨⟨px, py⟩, q⟩
  cases x <;> exact r)))
theorem Is.inL {n : Bool} (hu : Is u ρ x) (hv : Is v ρ (.list ys)) (px : Pl x) (py : Pl (.list ys)) : Is (w2 (fIn n) u v) ρ (.bool (if n then !(ys.any fun z => PyData.eqv z x) else ys.any fun z => PyData.eqv z x)) := fun Q E q => hu _ _ (hv _ _ ((by
  have r : (Pl x ∧ Pl (.list ys)) ∧ Q (.bool (if n then !(ys.any fun z => PyData.eqv z x) else ys.any fun z => PyData.eqv z x)) := ⟨⟨px, py⟩, q⟩
  cases x <;> exact r)))
theorem Is.fC {g : Int → Int → Bool} {m n : Int} (hu : Is u ρ (.int m)) (hv : Is v ρ (.int n)) : Is (w2 (fC g) u v) ρ (.bool (g m n)) := fun Q E q => hu _ _ (hv _ _ q)
theorem Is.addI {m n : Int} (hu : Is u ρ (.int m)) (hv : Is v ρ (.int n)) : Is (w2 fAdd u v) ρ (.int (m + n)) := fun Q E q => hu _ _ (hv _ _ q)
theorem Is.addT (hu : Is u ρ (.tuple xs)) (hv : Is v ρ (.tuple ys)) (hl : xs.length + ys.length ≤ 100000) : Is (w2 fAdd u v) ρ (.tuple (xs ++ ys)) := fun Q E q => hu _ _ (hv _ _ ⟨U.le_size hl, q⟩)
theorem Is.cat (hu : Is u ρ (.list xs)) (hv : Is v ρ (.list ys)) (hl : xs.length + ys.length ≤ 100000) : Is (w2 fCat u v) ρ (.list (xs ++ ys)) := fun Q E q => hu _ _ (hv _ _ ⟨U.le_size hl, q⟩)
theorem Is.isN (hu : Is u ρ x) : Is (w2 fIsN u (wC .none)) ρ (.bool (PL.isN x)) := fun Q E q => hu _ _ ⟨rfl, q⟩
theorem Is.notN (hu : Is u ρ x) : Is (w2 fNotN u (wC .none)) ρ (.bool (!PL.isN x)) := fun Q E q => hu _ _ ⟨rfl, q⟩
theorem Is.lenT (hu : Is u ρ (.tuple xs)) : Is (w1 fLen u) ρ (.int xs.length) := fun Q E q => hu _ _ q
theorem Is.lenL (hu : Is u ρ (.list xs)) : Is (w1 fLen u) ρ (.int xs.length) := fun Q E q => hu _ _ q
theorem Is.listT (hu : Is u ρ (.tuple xs)) : Is (w1 fList u) ρ (.list xs) := fun Q E q => hu _ _ q
theorem Is.tupleL (hu : Is u ρ (.list xs)) : Is (w1 fTuple u) ρ (.tuple xs) := fun Q E q => hu _ _ q
theorem Is.intB (hu : Is u ρ (.bool b)) : Is (w1 fInt u) ρ (.int (if b then 1 else 0)) := fun Q E q => hu _ _ q
theorem Is.unp (hu : Is u ρ (ptM xs)) : Is (wUnp u) ρ (.tuple xs) := fun Q E q => hu _ _ ⟨xs, rfl, q⟩
theorem Is.slT {lo hi : PWo} {l h : Option Int} (hu : Is u ρ (.tuple xs)) (hl : ∀ Q E, Q l → lo ρ Q E) (hh : ∀ Q E, Q h → hi ρ Q E) : Is (wSl fSlS u lo hi) ρ (.tuple (cutD xs l h)) := fun Q E q => hu _ _ (hl _ _ (hh _ _ q))
theorem Is.slL {lo hi : PWo} {l h : Option Int} (hu : Is u ρ (.list xs)) (hl : ∀ Q E, Q l → lo ρ Q E) (hh : ∀ Q E, Q h → hi ρ Q E) : Is (wSl fSlL u lo hi) ρ (.list (cutD xs l h)) := fun Q E q => hu _ _ (hl _ _ (hh _ _ q))
theorem isNo : ∀ (Q : Option Int → Prop) (E : Exn → Prop), Q none → wNo ρ Q E := fun Q E q => q
theorem isSo {n : Int} (h : Is w ρ (.int n)) : ∀ (Q : Option Int → Prop) (E : Exn → Prop), Q (some n) → wSo w ρ Q E := fun Q E q => h _ _ q
theorem IsB.T (h : Is w ρ (.bool b)) : IsB (wT w) ρ b := fun Q E q => h _ _ q
theorem IsB.eq (e : b = c) (h : IsB t ρ b) : IsB t ρ c := e ▸ h
theorem IsB.not (h : IsB t ρ b) : IsB (wNot t) ρ (!b) := fun Q E q => h _ _ q
theorem IsB.or1 (h : IsB s ρ true) : IsB (wOr s t) ρ true := fun Q E q => h _ _ (by rw [if_pos rfl]; exact q)
theorem IsB.or2 (h : IsB s ρ false) (h2 : IsB t ρ b) : IsB (wOr s t) ρ b := fun Q E q => h _ _ (by rw [if_neg (by decide)]; exact h2 _ _ q)
theorem IsB.and1 (h : IsB s ρ false) : IsB (wAnd s t) ρ false := fun Q E q => h _ _ (by rw [if_neg (by decide)]; exact q)
theorem IsB.and2 (h : IsB s ρ true) (h2 : IsB t ρ b) : IsB (wAnd s t) ρ b := fun Q E q => h _ _ (by rw [if_pos rfl]; exact h2 _ _ q)
theorem IsB.or (h : IsB s ρ b) (h2 : b = false → IsB t ρ c) : IsB (wOr s t) ρ (b || c) := by
  cases b
  · rw [Bool.false_or]; exact .or2 h (h2 rfl)
  · rw [Bool.true_or]; exact .or1 h
theorem IsB.and (h : IsB s ρ b) (h2 : b = true → IsB t ρ c) : IsB (wAnd s t) ρ (b && c) := by
  cases b
  · rw [Bool.false_and]; exact .and1 h
  · rw [Bool.true_and]; exact .and2 h (h2 rfl)
theorem Is.andV (h : Is u ρ (.bool b)) (h2 : b = true → Is v ρ (.bool c)) : Is (wAndV u v) ρ (.bool (b && c)) := by
  cases b
  · rw [Bool.false_and]; exact fun Q E q => h _ _ q
  · rw [Bool.true_and]; exact fun Q E q => h _ _ (h2 rfl _ _ q)
theorem Is.if1 (h : IsB t ρ true) (h2 : Is u ρ x) : Is (wIf t u v) ρ x := fun Q E q => h _ _ (by rw [if_pos rfl]; exact h2 _ _ q)
theorem Is.if2 (h : IsB t ρ false) (h2 : Is v ρ x) : Is (wIf t u v) ρ x := fun Q E q => h _ _ (by rw [if_neg (by decide)]; exact h2 _ _ q)
theorem Is.ch {f g : Int → Int → Bool} {l m n : Int} (hu : Is u ρ (.int l)) (hv : Is v ρ (.int m)) (hw : Is w ρ (.int n)) : Is (wCh (PL.fC f) (PL.fC g) u v w) ρ (.bool (f l m && g m n)) := fun Q E q => hu _ _ (hv _ _ (by
  show match PyData.bool (f l m) with | .bool true => w ρ (fun z => PL.fC g (.int m) z Q) E | .bool false => Q (.bool false) | _ => False
  cases e : f l m with
  | true => rw [e, Bool.true_and] at q; exact hw _ _ q
  | false => rw [e, Bool.false_and] at q; exact q))
theorem Is.lc2 {β : Type} {ws : PWs} {vs : List Nat} {l : List β} {A B O : β → PyData} {f : β → Bool} (hn : NoOwn vs ρ) (hw : IsS ws ρ (l.map fun p => .tuple [A p, B p])) (hl : l.length ≤ 100000)
    (ht : ∀ p ∈ l, IsB t (((wipeE ρ vs).set i (.sh (A p))).set j (.sh (B p))) (f p)) (ho : ∀ p ∈ l, f p = true → Is u (((wipeE ρ vs).set i (.sh (A p))).set j (.sh (B p))) (O p)) :
    Is (wLc ws (gTupD 2 (gConsD (gNameD i) (gConsD (gNameD j) gNilD))) t u vs) ρ (.list ((l.filter f).map O)) := fun Q E q => by
  refine ⟨hn, hw _ _ ?_⟩
  refine U.lc_all (enc := fun p => PyData.tuple [A p, B p]) (enco := O) l (fun p => if f p = true then some p else none) (fun p hp Y N hY hN => ?_) hl ?_
  · refine ⟨rfl, rfl, ht p hp _ _ ?_⟩
    cases e : f p with
    | true => rw [if_pos rfl]; exact ho p hp e _ _ (hY p (by rw [if_pos e]))
    | false => rw [if_neg (by decide)]; exact hN (by rw [if_neg (by rw [e]; decide)])
  · have : l.filterMap (fun p => if f p = true then some p else none) = l.filter f := by
      clear hw ht ho q hl
      induction l with
      | nil => rfl
      | cons p r ih =>
        cases e : f p with
        | true => rw [List.filterMap_cons_some (by rw [if_pos e]), List.filter_cons_of_pos e, ih]
        | false => rw [List.filterMap_cons_none (by rw [if_neg (by rw [e]; decide)]), List.filter_cons_of_neg (by rw [e]; decide), ih]
    rw [this]
    exact q
theorem IsB.yes : IsB wYes ρ true := fun Q E q => q
theorem IsS.itT (h : Is w ρ (.tuple xs)) : IsS (wItT w) ρ xs := fun Q E q => h _ _ q
theorem IsS.itL (h : Is w ρ (.list xs)) : IsS (wItL w) ρ xs := fun Q E q => h _ _ q
theorem IsP.nil : IsP wpNil ρ [] := fun Q E q => q
theorem IsP.sh {ws : PWp} {ss : List Sl} (h : Is w ρ x) (r : IsP ws ρ ss) : IsP (wpSh w ws) ρ (.sh x :: ss) := fun Q E q => h _ _ (r _ _ q)
theorem Is.call {n : Nat} {c : PW} {ws : PWp} {ss : List Sl} (hs : IsP ws ρ ss) (hl : ss.length = n) (h : Is c ss x) : Is (wCall n c ws) ρ x := fun Q E q => hs _ _ ⟨hl, h _ _ q⟩
theorem Is.meth {n : Nat} {c : PW} {ws : PWp} {ss : List Sl} {R : Reg} (hi : ρ[i]? = some (.rr R)) (hs : IsP ws ρ ss) (hl : ss.length + 1 = n) (h : Is c (.rr R :: ss) x) : Is (wMethR n i c ws) ρ x := fun Q E q => ⟨R, hi, hs _ _ ⟨hl, h _ _ q⟩⟩
theorem Rz.meth {n : Nat} {c : PW} {ws : PWp} {ss : List Sl} {R : Reg} (hi : ρ[i]? = some (.rr R)) (hs : IsP ws ρ ss) (hl : ss.length + 1 = n) (h : Rz c (.rr R :: ss) C) : Rz (wMethR n i c ws) ρ C := fun Q E q => ⟨R, hi, hs _ _ ⟨hl, h _ _ q⟩⟩
theorem Is.lend {A : RA} {R : Reg} (hi : ρ[i]? = some (.rg A R)) (by_ : ByE i ρ) (h : Is w (ρ.set i (.rr R)) x) : Is (wLend i w) ρ x := fun Q E q => ⟨A, R, hi, by_, h _ _ q⟩
theorem IsB.lend {A : RA} {R : Reg} (hi : ρ[i]? = some (.rg A R)) (by_ : ByE i ρ) (h : IsB t (ρ.set i (.rr R)) b) : IsB (wLendB i t) ρ b := fun Q E q => ⟨A, R, hi, by_, h _ _ q⟩
theorem Is.toldNo {r1 r2 : Str} (h : Rz w ρ C) : Is (wToldB C r1 r2 w) ρ (.str r1) := fun Q E q => h _ _ ⟨rfl, q⟩
theorem kT (m : Nat) : keyTn (keyI (kZ m)) = some (ik (kZ m)) := keyTn_ik _ fun e => by cases e
theorem IsB.thIn {n : Bool} {R : Reg} {ts : Tab} {m : Nat} (hi : ρ[i]? = some (.rr R)) (e : R.things = ts.map enc) (hj : ρ[j]? = some (.sh (keyI (kZ m)))) : IsB (wThIn n i j) ρ (if n then !(lk ts m).isSome else (lk ts m).isSome) := fun Q E q => by
  refine ⟨R, _, kZ m, hi, hj, kT m, ?_⟩
  rw [e, lk_enc, Option.isSome_map]
  exact q
theorem Is.thIx {R : Reg} {ts : Tab} {m : Nat} {r : Rw} (hi : ρ[i]? = some (.rr R)) (e : R.things = ts.map enc) (hj : ρ[j]? = some (.sh (keyI (kZ m)))) (h : lk ts m = some r) : Is (wThIx i j) ρ (rD r) := fun Q E q => by
  refine ⟨R, _, kZ m, rD r, hi, hj, kT m, ?_, q⟩
  rw [e, lk_enc, h]; rfl
theorem Is.rooms {R : Reg} (hi : ρ[i]? = some (.rr R)) : Is (wRooms i) ρ (.tuple (R.rooms.map .int)) := fun Q E q => ⟨R, hi, q⟩
variable {su sv : SW} {D : PEn}
theorem sif1 (h : IsB t ρ true) (q : su ρ D) : sIf t su sv ρ D := h _ _ (by rw [if_pos rfl]; exact q)
theorem sif2 (h : IsB t ρ false) (q : sv ρ D) : sIf t su sv ρ D := h _ _ (by rw [if_neg (by decide)]; exact q)
theorem sset (h : Is w ρ x) (q : D.nx (ρ.set i (.sh x))) : sSet i w ρ D := h _ _ q
theorem sown {ds : List PyData} (h : Is w ρ (.list ds)) (q : sv (ρ.set i (.ol ds)) D) : sSeq (sOwn i w) sv ρ D := h _ _ q
theorem sqset (h : Is w ρ x) (q : sv (ρ.set i (.sh x)) D) : sSeq (sSet i w) sv ρ D := h _ _ q
theorem sqret (h : Is w ρ x) (q : D.rt x) : sRet w ρ D := h _ _ q
theorem sqif1 {s2 : SW} (h : IsB t ρ true) (q : sSeq su s2 ρ D) : sSeq (sIf t su sv) s2 ρ D := h _ _ (by rw [if_pos rfl]; exact q)
theorem sqif2 {s2 : SW} (h : IsB t ρ false) (q : sSeq sv s2 ρ D) : sSeq (sIf t su sv) s2 ρ D := h _ _ (by rw [if_neg (by decide)]; exact q)
theorem sfrz {ds : List PyData} (h : ρ[i]? = some (.ol ds)) (q : sv (ρ.set i (.sh (.list ds))) D) : sFrz i sv ρ D := by unfold sFrz; rw [h]; exact q
theorem rz_if (h : IsB t ρ true) (q : D.ex ⟨C, none⟩) : sSeq (sIf t (sRaise C) sNil) sv ρ D := h _ _ (by rw [if_pos rfl]; exact q)
theorem go_if (h : IsB t ρ false) (q : sv ρ D) : sSeq (sIf t (sRaise C) sNil) sv ρ D := h _ _ (by rw [if_neg (by decide)]; exact q)
end
end M17
set_option Elab.async false
set_option linter.all false
set_option maxRecDepth 100000
set_option maxHeartbeats 1000000
namespace M17
open PySem PySem.Spec PyProof.Rows L2 PL S17
structure RgOk (n : Nat) (R : Reg) (ts : Tab) : Prop where
  th : R.things = ts.map enc
  ok : TbOk n ts
  rm : R.rooms = [2, 1]
def shW (s : Str) (x : PyData) (p : Nat × Rw) : Bool := PyData.eqv (.str p.2.st) (.str s) && PyData.eqv p.2.pl x
def kD (p : Nat × Rw) : PyData := keyI (kZ p.1)
def shL (s : Str) (x : PyData) (S : Tab) : List PyData := (S.filter (shW s x)).map kD
def cnt (r : Rw) (s : Str) : Int := (((r.ps.map fun p => PyData.str p.1).countP fun z => PyData.eqv z (.str s) : Nat) : Int)
theorem pls (x : Str) : Pl (.str x) := U.pl_str x
theorem strs_pl (l : List (Str × PyData)) : Pl (.list (l.map fun p => PyData.str p.1)) := by
  have := lst_plain (xs := l.map fun p => PyData.str p.1) 0 fun x hx => by
    obtain ⟨p, _, rfl⟩ := List.mem_map.mp hx
    exact ⟨rfl, Nat.zero_le _⟩
  exact ⟨this.1, by have := this.2; omega⟩
section
variable (a : Ad) {n : Nat} {R : Reg} {ts : Tab}
theorem p_st (h : RgOk n R ts) : Is (c_st a) [.rr R] (ptM ((srt ts).map itE)) := fun Q E q => by
  refine ⟨R, rfl, fun p hp => ?_, ?_, ?_⟩
  · rw [h.th] at hp
    obtain ⟨t, ht, rfl⟩ := List.mem_map.mp hp
    exact Pl_rD (h.ok.ok t ht)
  · rw [h.th]
    exact (rows_tab h.ok).2.1
  · rw [h.th, sort_enc h.ok, List.map_map]
    exact ⟨NK_tab _, q⟩
theorem rows_of {w : PW} {ρ : En} (S : Tab) (h : Is w ρ (.tuple (S.map itE))) : IsS (wItT w) ρ (S.map fun p => .tuple [kD p, rD p.2]) := IsS.itT h
theorem p_si (h : RgOk n R ts) {x : PyData} (hx : Sc x) : Is (c_si a) [.rr R, .sh x] (.tuple (shL "shown" x (srt ts))) := fun Q E q => by
  refine (Is.tupleL (Is.lc2 (i := 2) (j := 3) (A := kD) (B := fun p => rD p.2) (O := kD) (f := shW "shown" x) (l := srt ts) (U.noown rfl) (rows_of (srt ts) (Is.unp (Is.meth rfl IsP.nil rfl (p_st a h)))) (by have := (TbOk.srt h.ok).len; omega) (fun p hp => ?_) (fun p hp _ => Is.var rfl))) Q E q
  have hr := (TbOk.srt h.ok).ok p hp
  exact IsB.and (IsB.T (Is.eq (Is.ixT (Is.rd rfl) Is.cst rfl) Is.cst (pls _) (pls _))) fun _ => IsB.T (Is.eq (Is.ixT (Is.rd rfl) Is.cst rfl) (Is.rd rfl) (Pl_sc hr.pl) (Pl_sc hx))
theorem p_lt (h : RgOk n R ts) {x : PyData} (hx : Sc x) : Is (c_lt a) [.rr R, .sh x] (.tuple (shL "lent" x (srt ts))) := fun Q E q => by
  refine (Is.tupleL (Is.lc2 (i := 2) (j := 3) (A := kD) (B := fun p => rD p.2) (O := kD) (f := shW "lent" x) (l := srt ts) (U.noown rfl) (rows_of (srt ts) (Is.unp (Is.meth rfl IsP.nil rfl (p_st a h)))) (by have := (TbOk.srt h.ok).len; omega) (fun p hp => ?_) (fun p hp _ => Is.var rfl))) Q E q
  have hr := (TbOk.srt h.ok).ok p hp
  exact IsB.and (IsB.T (Is.eq (Is.ixT (Is.rd rfl) Is.cst rfl) Is.cst (pls _) (pls _))) fun _ => IsB.T (Is.eq (Is.ixT (Is.rd rfl) Is.cst rfl) (Is.rd rfl) (Pl_sc hr.pl) (Pl_sc hx))
/-- the past's names -/
theorem past_of {w : PW} {ρ : En} {i j : Nat} {vs : List Nat} (r : Rw) (hl : r.ps.length ≤ 100000) (hn : NoOwn vs ρ) (h : Is w ρ (.tuple (r.ps.map pD))) (hi : ∀ p ∈ r.ps, Is (wVar i) (((wipeE ρ vs).set i (.sh (.str p.1))).set j (.sh p.2)) (.str p.1)) :
    Is (wLc (wItT w) (gTupD 2 (gConsD (gNameD i) (gConsD (gNameD j) gNilD))) wYes (wVar i) vs) ρ (.list (r.ps.map fun p => PyData.str p.1)) := by
  have := Is.lc2 (i := i) (j := j) (A := fun p : Str × PyData => PyData.str p.1) (B := fun p => p.2) (O := fun p => PyData.str p.1) (f := fun _ => true) (l := r.ps) (t := wYes) (u := wVar i) (vs := vs) (ws := wItT w) (ρ := ρ) hn (IsS.itT h) hl (fun p hp => IsB.yes) (fun p hp _ => hi p hp)
  rwa [List.filter_eq_self.mpr (fun _ _ => rfl)] at this
theorem cnt_is {w : PW} {ρ : En} (r : Rw) (s : Str) (h : Is w ρ (.list (r.ps.map fun p => PyData.str p.1))) : Is (wCntD w (wC (.str s))) ρ (.int (cnt r s)) := fun Q E q => h _ _ ⟨⟨strs_pl _, pls _⟩, q⟩
theorem p_of (h : RgOk n R ts) {m : Nat} {r : Rw} (hm : lk ts m = some r) (hn : n ≤ 1000) : Is (c_of a) [.rr R, .sh (keyI (kZ m))] (.tuple [.int (cnt r "shown"), .int (cnt r "lent")]) := fun Q E q => by
  have hr := h.ok.ok _ (lk_mem hm)
  have hp : Is (w2 fIx (wThIx 0 1) (wC (.int 3))) [.rr R, .sh (keyI (kZ m)), .un, .un, .un] (.tuple (r.ps.map pD)) := Is.ixT (Is.thIx rfl h.th rfl hm) Is.cst rfl
  refine go_if (IsB.eq (by rw [hm]; rfl) (IsB.thIn rfl h.th rfl)) ?_
  refine sown (past_of (i := 3) (j := 4) (vs := [3, 4]) (ρ := [.rr R, .sh (keyI (kZ m)), .un, .un, .un]) r (by have : r.ps.length ≤ n := hr.len; omega) (U.noown rfl) hp (fun p hp => Is.var rfl)) ?_
  exact sfrz rfl (sqret (Is.tup (IsS.cons (cnt_is r _ (Is.var rfl)) (IsS.cons (cnt_is r _ (Is.var rfl)) IsS.nil))) q)
end
end M17
set_option Elab.async false
set_option linter.all false
set_option maxRecDepth 100000
set_option maxHeartbeats 1000000
namespace M17
open PySem PySem.Spec PyProof.Rows L2 PL S17
section
variable {ρ : En} {u v w : PW} {x : PyData} {i j : Nat}
theorem Is.isi {t : String} (h : Is u ρ x) (n : nDc x) : Is (wIsi t u) ρ (.bool (isTy (tyD x) t)) := fun Q E q => h _ _ ⟨n, q⟩
end
def inB (y l i : Int) : Bool := (decide (1800 ≤ y) && decide (y ≤ 2199)) && ((decide (0 ≤ l) && decide (l ≤ 999)) && (decide (0 ≤ i) && decide (i ≤ 999)))
theorem p_isthing (a : Ad) (y l i : Int) : Is (c_is_thing a) [.sh (.tuple [.int y, .int l, .int i])] (.bool (inB y l i)) := fun Q E q => by
  let T : PyData := .tuple [.int y, .int l, .int i]
  have h1 : IsB (wOr (wNot (wT (wIsi "tuple" (wVar 0)))) (wT (w2 (fEq true) (w1 fLen (wRd 0)) (wC (.int 3))))) [.sh T, .un, .un, .un, .un] false :=
    IsB.or2 (IsB.eq (b := !isTy (tyD T) "tuple") rfl (IsB.not (IsB.T (Is.isi (x := T) (Is.var rfl) trivial)))) (IsB.eq (by rw [if_pos rfl, U.eqv_int]; rfl) (IsB.T (Is.eq (n := true) (Is.lenT (xs := [.int y, .int l, .int i]) (Is.rd rfl)) Is.cst (U.pl_int _) (U.pl_int _))))
  show sSeq (sIf _ _ _) _ [.sh T, .un, .un, .un, .un] _
  refine h1 _ _ ?_
  rw [if_neg (by decide)]
  refine ⟨U.noown rfl, ?_⟩
  refine U.gen_map (enc := PyData.int) (toD := PyData.bool) [y, l, i] (fun _ => true) (fun x hx => ⟨rfl, trivial, trivial, rfl⟩) (fun bs eb => ?_)
  refine U.no (b := !(bs.filterMap id).all id) (by rw [eb]; rfl) ?_
  refine ⟨rfl, rfl, ?_⟩
  have hh : Is (wAndV (wCh (PL.fC fun i j => decide (i ≤ j)) (PL.fC fun i j => decide (i ≤ j)) (wC (.int 1800)) (wVar 1) (wC (.int 2199))) (wAndV (wCh (PL.fC fun i j => decide (i ≤ j)) (PL.fC fun i j => decide (i ≤ j)) (wC (.int 0)) (wVar 2) (wC (.int 999))) (wCh (PL.fC fun i j => decide (i ≤ j)) (PL.fC fun i j => decide (i ≤ j)) (wC (.int 0)) (wVar 3) (wC (.int 999))))) [.sh T, .sh (.int y), .sh (.int l), .sh (.int i), .un] (.bool (inB y l i)) :=
    Is.andV (Is.ch Is.cst (Is.var rfl) Is.cst) fun _ => Is.andV (Is.ch Is.cst (Is.var rfl) Is.cst) fun _ => Is.ch Is.cst (Is.var rfl) Is.cst
  exact hh Q E q
def byB (i : Nat) (ρ : En) : Bool := ρ.zipIdx.all fun p => p.2 == i || p.1.by
theorem by_of {i : Nat} {ρ : En} (h : byB i ρ = true) : ByE i ρ := fun j s hj hs => by
  have h := List.all_eq_true.mp h (s, j) (List.mem_iff_getElem?.mpr ⟨j, by rw [List.getElem?_zipIdx, hs]; simp⟩)
  rcases Bool.or_eq_true _ _ |>.mp h with h | h
  · exact absurd (by simpa using h) hj
  · exact h
def dst (r : Rw) (s : Str) (x : PyData) : Rw := ⟨r.nm, s, x, r.ps ++ [(s, x)]⟩
def noted (R : Reg) (ts : Tab) (m : Nat) (r : Rw) : Reg := { R with things := (put ts m r).map enc, deeds := R.deeds ++ [((srt ts).map itE, (srt (put ts m r)).map itE)], undone := [] }
theorem dst_ok {n : Nat} {r : Rw} (h : RwOk n r) {s : Str} {x : PyData} (hx : Sc x) : RwOk (n + 1) (dst r s x) := ⟨hx, fun p hp => by
  rcases List.mem_append.mp hp with hp | hp
  · exact h.ps p hp
  · rw [List.mem_singleton.mp hp]; exact hx, by
  show (r.ps ++ [(s, x)]).length ≤ n + 1
  rw [List.length_append, List.length_singleton]
  have := h.len
  omega⟩
section
variable (a : Ad) {n : Nat} {R : Reg} {ts : Tab} {A : RA} {Q : RA → Reg → Prop}
theorem pG_no (h : RgOk n R ts) (hd : R.deeds.length ≤ 1000) {m : Nat} {r : Rw} (hm : m < 3) (hr : RwOk n r) (q : ∀ A', A'.b = A.b → Q A' (noted R ts m r)) : cG_no a A R [.sh (keyI (kZ m)), .sh (rD r)] Q := by
  let R1 : Reg := { R with things := (put ts m r).map enc }
  have h1 : RgOk n R1 (put ts m r) := ⟨rfl, h.ok.put hm hr, h.rm⟩
  show sSeq (sSet 3 _) _ [.rg A R, .sh (keyI (kZ m)), .sh (rD r), .un] _
  refine sqset (Is.lend rfl (by_of rfl) (Is.meth rfl IsP.nil rfl (p_st a h))) ?_
  refine ⟨A, R, _, kZ m, _, rfl, by_of rfl, rfl, kT m, rfl, ?_, ?_⟩
  · rw [h.th, List.length_map]
    have := h.ok.len
    exact U.lt_size (by omega)
  rw [h.th, put_enc]
  refine ⟨A, R1, rfl, by_of rfl, ?_⟩
  refine (Is.tup (IsS.cons (Is.var rfl) (IsS.cons (Is.lend rfl (by_of rfl) (Is.meth rfl IsP.nil rfl (p_st a h1))) IsS.nil))) _ _ ?_
  refine ⟨((srt ts).map itE, (srt (put ts m r)).map itE), rfl, U.lt_size (by show R.deeds.length ≤ _; omega), ?_⟩
  exact ⟨A, _, rfl, by_of rfl, fun A' e => ⟨A', _, rfl, q A' e⟩⟩
def inS (sts : List Str) (s : Str) : Bool := (sts.map PyData.str).any fun z => PyData.eqv z (.str s)
theorem pl_strs (sts : List Str) : Pl (.tuple (sts.map .str)) := by
  have := tup_plain (xs := sts.map PyData.str) 0 fun x hx => by
    obtain ⟨p, _, rfl⟩ := List.mem_map.mp hx
    exact ⟨rfl, Nat.zero_le _⟩
  exact ⟨this.1, by have := this.2; omega⟩
theorem t_go {ρ : En} (h : RgOk n R ts) {m : Nat} {r : Rw} {sts : List Str} (hm : lk ts m = some r) (h0 : ρ[0]? = some (.rr R)) (h1 : ρ[1]? = some (.sh (keyI (kZ m)))) (h2 : ρ[2]? = some (.sh (.tuple (sts.map .str)))) :
    IsB (wOr (wThIn true 0 1) (wT (w2 (fIn true) (w2 fIx (wThIx 0 1) (wC (.int 1))) (wRd 2)))) ρ (!inS sts r.st) :=
  IsB.or2 (IsB.eq (by rw [hm]; rfl) (IsB.thIn h0 h.th h1)) (IsB.T (Is.inT (Is.ixT (Is.thIx h0 h.th h1 hm) Is.cst rfl) (Is.rd h2) (pls _) (pl_strs sts)))
theorem pD_go (h : RgOk n R ts) {m : Nat} {sts : List Str} {s : Str} {x : PyData} (hno : ∀ r, lk ts m = some r → inS sts r.st = false) : Rz (c_go a) [.rr R, .sh (keyI (kZ m)), .sh (.tuple (sts.map .str)), .sh (.str s), .sh x] a.x_BadDeed := fun Q E q => by
  cases hm : lk ts m with
  | none => exact rz_if (IsB.or1 (IsB.eq (by rw [hm]; rfl) (IsB.thIn rfl h.th rfl))) q
  | some r => exact rz_if (IsB.eq (by rw [hno r hm]; rfl) (t_go h hm rfl rfl rfl)) q
theorem pG_go (h : RgOk n R ts) (hd : R.deeds.length ≤ 1000) (hn : n ≤ 1000) {m : Nat} {r : Rw} {sts : List Str} {s : Str} {x : PyData} (hm : lk ts m = some r) (hs : inS sts r.st = true) (hx : Sc x)
    (q : ∀ A', A'.b = A.b → Q A' (noted R ts m (dst r s x))) : cG_go a A R [.sh (keyI (kZ m)), .sh (.tuple (sts.map .str)), .sh (.str s), .sh x] Q := by
  have hm3 := h.ok.lt _ (lk_mem hm)
  have hr : RwOk n r := h.ok.ok _ (lk_mem hm)
  have h' : RgOk (n + 1) R ts := ⟨h.th, h.ok.more (by omega), h.rm⟩
  let ρ0 : En := [.rg A R, .sh (keyI (kZ m)), .sh (.tuple (sts.map .str)), .sh (.str s), .sh x, .un, .un, .un, .un]
  have t1 : IsB (wOr (wLendB 0 (wThIn true 0 1)) (wT (w2 (fIn true) (w2 fIx (wLend 0 (wThIx 0 1)) (wC (.int 1))) (wRd 2)))) ρ0 false :=
    IsB.eq (by unfold inS at hs; rw [if_pos rfl, hs]; rfl) (IsB.or2 (IsB.eq (by rw [hm]; rfl) (IsB.lend rfl (by_of rfl) (IsB.thIn rfl h.th rfl))) (IsB.T (Is.inT (Is.ixT (Is.lend rfl (by_of rfl) (Is.thIx rfl h.th rfl hm)) Is.cst rfl) (Is.rd rfl) (pls _) (pl_strs sts))))
  refine go_if (ρ := ρ0) t1 ?_
  refine (Is.lend rfl (by_of rfl) (Is.thIx (m := m) rfl h.th rfl hm)) _ _ ?_
  refine ⟨rfl, rfl, ?_⟩
  refine ⟨A, R, rfl, by_of rfl, ?_⟩
  refine (IsP.sh (Is.var rfl) (IsP.sh (Is.tup (IsS.cons (Is.var rfl) (IsS.cons (Is.var rfl) (IsS.cons (Is.var rfl) (IsS.cons (Is.addT (Is.rd rfl) (Is.tup (IsS.cons (Is.tup (IsS.cons (Is.var rfl) (IsS.cons (Is.var rfl) IsS.nil))) IsS.nil)) ?_) IsS.nil))))) IsP.nil)) _ _ ⟨rfl, ?_⟩
  · rw [List.length_map]
    have : r.ps.length ≤ n := hr.len
    simp only [List.length_cons, List.length_nil]
    omega
  have e : PyData.tuple [.str r.nm, .str s, x, .tuple (r.ps.map pD ++ [.tuple [.str s, x]])] = rD (dst r s x) := by
    unfold rD dst
    rw [List.map_append]; rfl
  rw [e]
  exact pG_no a h' hd hm3 (dst_ok hr hx) fun A' e => ⟨e, A', _, rfl, q A' e⟩
end
end M17
set_option Elab.async false
set_option linter.all false
set_option maxRecDepth 100000
set_option maxHeartbeats 1000000
namespace M17
open PySem PySem.Spec PyProof.Rows L2 PL S17
theorem smethG {ρ : En} {i n : Nat} {c : CG} {ws : PWp} {ss : List Sl} {A : RA} {R : Reg} {D : PEn} (hi : ρ[i]? = some (.rg A R)) (by_ : ByE i ρ) (hs : IsP ws ρ ss) (hl : ss.length + 1 = n) (h : c A R ss fun A' R' => A'.b = A.b ∧ D.nx (ρ.set i (.rg A' R'))) : sMethG n i c ws ρ D := ⟨A, R, hi, by_, hs _ _ ⟨hl, h⟩⟩
def eqS (x y : Str) : Bool := PyData.eqv (.str x) (.str y)
theorem inB_key {m : Nat} (h : m < 3) : inB 1900 0 (m : Int) = true := by
  unfold inB
  have h1 : (m : Int) ≤ 999 := by omega
  have h2 : (0 : Int) ≤ m := by omega
  simp [h1, h2]
def rm (r : Int) : Int := if r = 0 then 2 else 1
theorem rm_at {r : Int} (h0 : 0 ≤ r) (h1 : r < 2) : atI ([2, 1].map PyData.int) r = some (.int (rm r)) := by
  have : r = 0 ∨ r = 1 := by omega
  rcases this with rfl | rfl <;> rfl
section
variable (a : Ad) {n : Nat} {R : Reg} {ts : Tab} {A : RA} {Q : RA → Reg → Prop}
theorem t_is {ρ : En} {m : Nat} (hm : m < 3) (h : ρ[1]? = some (.sh (keyI (kZ m)))) : IsB (wNot (wT (wCall 1 (c_is_thing a) (wpSh (wVar 1) wpNil)))) ρ false :=
  IsB.eq (by rw [inB_key hm]; rfl) (IsB.not (IsB.T (Is.call (IsP.sh (Is.var h) IsP.nil) rfl (p_isthing a 1900 0 m))))
def newRw (nm : Str) : Rw := ⟨nm, "in", .none, [("in", .none)]⟩
theorem new_ok (nm : Str) (hn : 1 ≤ n) : RwOk n (newRw nm) := ⟨.inl rfl, fun p hp => by rw [List.mem_singleton.mp hp]; exact .inl rfl, hn⟩
theorem pG_ti (h : RgOk n R ts) (hd : R.deeds.length ≤ 1000) {m : Nat} {nm : Str} (hm : m < 3) (h0 : lk ts m = none) (he : eqS nm "" = false) (q : ∀ A', A'.b = A.b → Q A' (noted R ts m (newRw nm))) : cG_ti a A R [.sh (keyI (kZ m)), .sh (.str nm)] Q := by
  have h' : RgOk (n + 1) R ts := ⟨h.th, h.ok.more (by omega), h.rm⟩
  refine go_if (ρ := [.rg A R, .sh (keyI (kZ m)), .sh (.str nm)]) (IsB.or2 (t_is a hm rfl) (IsB.or2 (IsB.eq (by rw [h0]; rfl) (IsB.lend rfl (by_of rfl) (IsB.thIn rfl h.th rfl))) (IsB.eq (by rw [if_neg (by decide)]; exact he) (IsB.T (Is.eq (n := false) (Is.rd rfl) Is.cst (pls _) (pls _)))))) ?_
  refine smethG rfl (by_of rfl) (IsP.sh (Is.var rfl) (IsP.sh (Is.tup (IsS.cons (Is.var rfl) (IsS.cons Is.cst (IsS.cons Is.cst (IsS.cons (Is.tup (IsS.cons (Is.tup (IsS.cons Is.cst (IsS.cons Is.cst IsS.nil))) IsS.nil)) IsS.nil))))) IsP.nil)) rfl ?_
  exact pG_no a h' hd hm (new_ok nm (by omega)) fun A' e => ⟨e, A', _, rfl, q A' e⟩
theorem t_no {ρ : En} {i : Nat} {nm : Str} (h : ρ[i]? = some (.sh (.str nm))) : IsB (wT (w2 (fEq false) (wRd i) (wC (.str "")))) ρ (eqS nm "") := IsB.eq (by rw [if_neg (by decide)]; rfl) (IsB.T (Is.eq (n := false) (Is.rd h) Is.cst (pls _) (pls _)))
theorem pD_ti (h : RgOk n R ts) {m : Nat} {nm : Str} (hm : m < 3) (he : (lk ts m).isSome = true ∨ eqS nm "" = true) : Rz (c_ti a) [.rr R, .sh (keyI (kZ m)), .sh (.str nm)] a.x_BadDeed := fun Q E q => by
  have t2 : IsB (wOr (wThIn false 0 1) (wT (w2 (fEq false) (wRd 2) (wC (.str ""))))) [.rr R, .sh (keyI (kZ m)), .sh (.str nm)] ((lk ts m).isSome || eqS nm "") :=
    IsB.or (IsB.eq (by rw [if_neg (by decide)]) (IsB.thIn (n := false) rfl h.th rfl)) fun _ => t_no rfl
  have t3 : IsB (wOr (wThIn false 0 1) (wT (w2 (fEq false) (wRd 2) (wC (.str ""))))) [.rr R, .sh (keyI (kZ m)), .sh (.str nm)] true := IsB.eq (by rcases he with he | he <;> rw [he] <;> simp) t2
  unfold c_ti cOf u_ti
  exact rz_if (IsB.or2 (t_is a hm rfl) t3) q
theorem pD_ti2 {nm : Str} : Rz (c_ti a) [.rr R, .sh (.tuple [.int 1, .int 2, .int 3]), .sh (.str nm)] a.x_BadDeed := fun Q E q => by
  have t : IsB (wNot (wT (wCall 1 (c_is_thing a) (wpSh (wVar 1) wpNil)))) [.rr R, .sh (.tuple [.int 1, .int 2, .int 3]), .sh (.str nm)] true := fun Q E q => ⟨rfl, p_isthing a 1 2 3 _ _ (by
    have e : inB 1 2 3 = false := by decide
    rw [e]
    exact q)⟩
  unfold c_ti cOf u_ti
  exact rz_if (IsB.or1 t) q
theorem is3 {ρ : En} : Is (wTup (wCons (wC (.str "in")) (wCons (wC (.str "shown")) (wCons (wC (.str "lent")) wNil)))) ρ (.tuple ((["in", "shown", "lent"] : List Str).map .str)) := Is.tup (IsS.cons Is.cst (IsS.cons Is.cst (IsS.cons Is.cst IsS.nil)))
theorem is1 {ρ : En} : Is (wTup (wCons (wC (.str "store")) wNil)) ρ (.tuple ((["store"] : List Str).map .str)) := Is.tup (IsS.cons Is.cst IsS.nil)
theorem pG_pb (h : RgOk n R ts) (hd : R.deeds.length ≤ 1000) (hn : n ≤ 1000) {m : Nat} {r : Rw} (hm : lk ts m = some r) (hs : inS ["in", "shown", "lent"] r.st = true) (q : ∀ A', A'.b = A.b → Q A' (noted R ts m (dst r "store" .none))) : cG_pb a A R [.sh (keyI (kZ m))] Q := by
  refine smethG (ρ := [.rg A R, .sh (keyI (kZ m))]) rfl (by_of rfl) (IsP.sh (Is.var rfl) (IsP.sh is3 (IsP.sh Is.cst (IsP.sh Is.cst IsP.nil)))) rfl ?_
  exact pG_go a h hd hn hm hs (.inl rfl) fun A' e => ⟨e, A', _, rfl, q A' e⟩
theorem pD_pb (h : RgOk n R ts) {m : Nat} (hno : ∀ r, lk ts m = some r → inS ["in", "shown", "lent"] r.st = false) : Rz (c_pb a) [.rr R, .sh (keyI (kZ m))] a.x_BadDeed := fun Q E q =>
  Rz.meth (ρ := [.rr R, .sh (keyI (kZ m))]) rfl (IsP.sh (Is.var rfl) (IsP.sh is3 (IsP.sh Is.cst (IsP.sh Is.cst IsP.nil)))) rfl (pD_go a h hno) _ _ q
theorem pG_lg (h : RgOk n R ts) (hd : R.deeds.length ≤ 1000) (hn : n ≤ 1000) {m : Nat} {r : Rw} (hm : lk ts m = some r) (hs : inS ["store"] r.st = true) (q : ∀ A', A'.b = A.b → Q A' (noted R ts m (dst r "gone" .none))) : cG_lg a A R [.sh (keyI (kZ m))] Q := by
  refine smethG (ρ := [.rg A R, .sh (keyI (kZ m))]) rfl (by_of rfl) (IsP.sh (Is.var rfl) (IsP.sh is1 (IsP.sh Is.cst (IsP.sh Is.cst IsP.nil)))) rfl ?_
  exact pG_go a h hd hn hm hs (.inl rfl) fun A' e => ⟨e, A', _, rfl, q A' e⟩
theorem pD_lg (h : RgOk n R ts) {m : Nat} (hno : ∀ r, lk ts m = some r → inS ["store"] r.st = false) : Rz (c_lg a) [.rr R, .sh (keyI (kZ m))] a.x_BadDeed := fun Q E q =>
  Rz.meth (ρ := [.rr R, .sh (keyI (kZ m))]) rfl (IsP.sh (Is.var rfl) (IsP.sh is1 (IsP.sh Is.cst (IsP.sh Is.cst IsP.nil)))) rfl (pD_go a h hno) _ _ q
theorem pG_le (h : RgOk n R ts) (hd : R.deeds.length ≤ 1000) (hn : n ≤ 1000) {m : Nat} {r : Rw} {nm : Str} (he : eqS nm "" = false) (hm : lk ts m = some r) (hs : inS ["store"] r.st = true) (q : ∀ A', A'.b = A.b → Q A' (noted R ts m (dst r "lent" (.str nm)))) : cG_le a A R [.sh (keyI (kZ m)), .sh (.str nm)] Q := by
  refine go_if (ρ := [.rg A R, .sh (keyI (kZ m)), .sh (.str nm)]) (IsB.eq he (t_no rfl)) ?_
  refine smethG rfl (by_of rfl) (IsP.sh (Is.var rfl) (IsP.sh is1 (IsP.sh Is.cst (IsP.sh (Is.var rfl) IsP.nil)))) rfl ?_
  exact pG_go a h hd hn hm hs (.inr (.inr ⟨nm, rfl⟩)) fun A' e => ⟨e, A', _, rfl, q A' e⟩
theorem pD_le (h : RgOk n R ts) {m : Nat} {nm : Str} (hno : eqS nm "" = true ∨ ∀ r, lk ts m = some r → inS ["store"] r.st = false) : Rz (c_le a) [.rr R, .sh (keyI (kZ m)), .sh (.str nm)] a.x_BadDeed := fun Q E q => by
  cases he : eqS nm "" with
  | true => exact rz_if (ρ := [.rr R, .sh (keyI (kZ m)), .sh (.str nm)]) (IsB.eq he (t_no rfl)) q
  | false =>
    refine go_if (ρ := [.rr R, .sh (keyI (kZ m)), .sh (.str nm)]) (IsB.eq he (t_no rfl)) ?_
    exact Rz.meth (ρ := [.rr R, .sh (keyI (kZ m)), .sh (.str nm)]) rfl (IsP.sh (Is.var rfl) (IsP.sh is1 (IsP.sh Is.cst (IsP.sh (Is.var rfl) IsP.nil)))) rfl (pD_go a h (hno.resolve_left (by rw [he]; decide))) _ _ q
theorem pG_sh (h : RgOk n R ts) (hd : R.deeds.length ≤ 1000) (hn : n ≤ 1000) {m : Nat} {r : Rw} {o : Int} (h0 : 0 ≤ o) (h2 : o < 2) (hf : ((shL "shown" (.int o) (srt ts)).length : Int) < rm o) (hm : lk ts m = some r) (hs : inS ["store"] r.st = true) (q : ∀ A', A'.b = A.b → Q A' (noted R ts m (dst r "shown" (.int o)))) : cG_sh a A R [.sh (keyI (kZ m)), .sh (.int o)] Q := by
  have hr0 : Is (wLend 0 (wRooms 0)) [.rg A R, .sh (keyI (kZ m)), .sh (.int o)] (.tuple ([2, 1].map .int)) := Is.lend rfl (by_of rfl) (by have := Is.rooms (R := R) (ρ := [.rr R, .sh (keyI (kZ m)), .sh (.int o)]) (i := 0) rfl; rw [h.rm] at this; exact this)
  refine go_if (ρ := [.rg A R, .sh (keyI (kZ m)), .sh (.int o)]) (IsB.or2 (IsB.eq (b := !(decide (0 ≤ o) && decide (o < 2))) (by rw [decide_eq_true h0, decide_eq_true h2]; rfl) (IsB.not (IsB.T (Is.ch Is.cst (Is.var rfl) (Is.lenT hr0))))) (IsB.eq (b := decide (rm o ≤ ((shL "shown" (.int o) (srt ts)).length : Int))) (decide_eq_false (by omega)) (IsB.T (Is.fC (Is.lenT (Is.lend rfl (by_of rfl) (Is.meth rfl (IsP.sh (Is.var rfl) IsP.nil) rfl (p_si a h (.inr (.inl ⟨o, rfl⟩)))))) (Is.ixT hr0 (Is.rd rfl) (rm_at h0 h2)))))) ?_
  refine smethG rfl (by_of rfl) (IsP.sh (Is.var rfl) (IsP.sh is1 (IsP.sh Is.cst (IsP.sh (Is.var rfl) IsP.nil)))) rfl ?_
  exact pG_go a h hd hn hm hs (.inr (.inl ⟨o, rfl⟩)) fun A' e => ⟨e, A', _, rfl, q A' e⟩
theorem pD_sh (h : RgOk n R ts) {m : Nat} {o : Int} (h0 : 0 ≤ o) (hno : ¬ o < 2 ∨ rm o ≤ ((shL "shown" (.int o) (srt ts)).length : Int) ∨ ∀ r, lk ts m = some r → inS ["store"] r.st = false) : Rz (c_sh a) [.rr R, .sh (keyI (kZ m)), .sh (.int o)] a.x_BadDeed := fun Q E q => by
  have hr0 : Is (wRooms 0) [.rr R, .sh (keyI (kZ m)), .sh (.int o)] (.tuple ([2, 1].map .int)) := by have := Is.rooms (R := R) (ρ := [.rr R, .sh (keyI (kZ m)), .sh (.int o)]) (i := 0) rfl; rw [h.rm] at this; exact this
  have hc := Is.ch (f := fun i j => decide (i ≤ j)) (g := fun i j => decide (i < j)) (ρ := [.rr R, .sh (keyI (kZ m)), .sh (.int o)]) (u := wC (.int 0)) (v := wVar 2) Is.cst (Is.var rfl) (Is.lenT hr0)
  by_cases h2 : o < 2
  · have hl := IsB.T (Is.fC (g := fun i j => decide (j ≤ i)) (Is.lenT (Is.meth (ρ := [.rr R, .sh (keyI (kZ m)), .sh (.int o)]) (i := 0) rfl (IsP.sh (Is.var (i := 2) rfl) IsP.nil) rfl (p_si a h (.inr (.inl ⟨o, rfl⟩))))) (Is.ixT hr0 (Is.rd (i := 2) rfl) (rm_at h0 h2)))
    have hc2 : IsB (wNot (wT (wCh (PL.fC fun i j => decide (i ≤ j)) (PL.fC fun i j => decide (i < j)) (wC (.int 0)) (wVar 2) (w1 fLen (wRooms 0))))) [.rr R, .sh (keyI (kZ m)), .sh (.int o)] false := IsB.eq (b := !(decide (0 ≤ o) && decide (o < 2))) (by rw [decide_eq_true h0, decide_eq_true h2]; rfl) (IsB.not (IsB.T hc))
    by_cases hf : rm o ≤ ((shL "shown" (.int o) (srt ts)).length : Int)
    · exact rz_if (ρ := [.rr R, .sh (keyI (kZ m)), .sh (.int o)]) (IsB.or2 hc2 (IsB.eq (decide_eq_true hf) hl)) q
    · refine go_if (ρ := [.rr R, .sh (keyI (kZ m)), .sh (.int o)]) (IsB.or2 hc2 (IsB.eq (decide_eq_false hf) hl)) ?_
      exact Rz.meth (ρ := [.rr R, .sh (keyI (kZ m)), .sh (.int o)]) rfl (IsP.sh (Is.var rfl) (IsP.sh is1 (IsP.sh Is.cst (IsP.sh (Is.var rfl) IsP.nil)))) rfl (pD_go a h ((hno.resolve_left fun z => z h2).resolve_left hf)) _ _ q
  · exact rz_if (ρ := [.rr R, .sh (keyI (kZ m)), .sh (.int o)]) (IsB.or1 (IsB.eq (b := !(decide (0 ≤ o) && decide (o < 2))) (by rw [decide_eq_false h2, Bool.and_false]; rfl) (IsB.not (IsB.T hc)))) q
end
end M17
set_option Elab.async false
set_option linter.all false
set_option maxRecDepth 100000
set_option maxHeartbeats 1000000
namespace M17
open PySem PySem.Spec PyProof.Rows L2 PL S17
def inN (nm x : Str) : Bool := ([PyData.str "", PyData.str x]).any fun z => PyData.eqv z (.str nm)
def rnm (r : Rw) (nm : Str) : Rw := ⟨nm, r.st, r.pl, r.ps⟩
theorem rnm_ok {n : Nat} {r : Rw} (h : RwOk n r) (nm : Str) : RwOk n (rnm r nm) := ⟨h.pl, h.ps, h.len⟩
theorem cut1 (x : PyData) (l : List PyData) : PL.cutD (x :: l) (some 1) none = l := by
  have := U.cut_lo (f := id) (ws := x :: l) (k := 1) (by simp)
  simpa using this
theorem two_pl (x y : Str) : Pl (.tuple [.str x, .str y]) := by
  have := pl_strs [x, y]
  exact this
def DeOk (p : List PyData × List PyData) : Prop := ∃ n S1 S2, TbOk n S1 ∧ TbOk n S2 ∧ p = (S1.map itE, S2.map itE)
theorem deeds_pl {l : List (List PyData × List PyData)} (h : ∀ p ∈ l, DeOk p) : Pl (.list (l.map deP)) := by
  have := lst_plain (xs := l.map deP) 12 fun x hx => by
    obtain ⟨p, hp, rfl⟩ := List.mem_map.mp hx
    obtain ⟨n, S1, S2, h1, h2, rfl⟩ := h p hp
    exact tup_plain 10 fun x hx => by
      simp only [List.mem_cons, List.not_mem_nil, or_false] at hx
      rcases hx with rfl | rfl
      · exact tab_plain h1
      · exact tab_plain h2
  exact ⟨this.1, by have := this.2; omega⟩
section
variable (a : Ad) {n : Nat} {R : Reg} {ts : Tab} {A : RA} {Q : RA → Reg → Prop}
theorem pG_rn (h : RgOk n R ts) (hd : R.deeds.length ≤ 1000) {m : Nat} {r : Rw} {nm : Str} (hm : lk ts m = some r) (hg : eqS r.st "gone" = false) (hi : inN nm r.nm = false) (q : ∀ A', A'.b = A.b → Q A' (noted R ts m (rnm r nm))) : cG_rn a A R [.sh (keyI (kZ m)), .sh (.str nm)] Q := by
  have hm3 := h.ok.lt _ (lk_mem hm)
  have hr : RwOk n r := h.ok.ok _ (lk_mem hm)
  have ix : Is (wLend 0 (wThIx 0 1)) [.rg A R, .sh (keyI (kZ m)), .sh (.str nm)] (rD r) := Is.lend rfl (by_of rfl) (Is.thIx (m := m) rfl h.th rfl hm)
  have t1 : IsB (wLendB 0 (wThIn true 0 1)) [.rg A R, .sh (keyI (kZ m)), .sh (.str nm)] false := IsB.eq (by rw [hm]; rfl) (IsB.lend rfl (by_of rfl) (IsB.thIn rfl h.th rfl))
  have t2 : IsB (wT (w2 (fEq false) (w2 fIx (wLend 0 (wThIx 0 1)) (wC (.int 1))) (wC (.str "gone")))) [.rg A R, .sh (keyI (kZ m)), .sh (.str nm)] false := IsB.eq (by rw [if_neg (by decide)]; exact hg) (IsB.T (Is.eq (n := false) (Is.ixT ix Is.cst rfl) Is.cst (pls _) (pls _)))
  have t3 : IsB (wT (w2 (fIn false) (wRd 2) (wTup (wCons (wC (.str "")) (wCons (w2 fIx (wLend 0 (wThIx 0 1)) (wC (.int 0))) wNil))))) [.rg A R, .sh (keyI (kZ m)), .sh (.str nm)] false := IsB.eq (by rw [if_neg (by decide)]; exact hi) (IsB.T (Is.inT (n := false) (Is.rd rfl) (Is.tup (IsS.cons Is.cst (IsS.cons (Is.ixT ix Is.cst rfl) IsS.nil))) (pls _) (two_pl _ _)))
  unfold cG_rn cOfG uG_rn
  refine go_if (ρ := [.rg A R, .sh (keyI (kZ m)), .sh (.str nm)]) (IsB.or2 t1 (IsB.or2 t2 t3)) ?_
  refine smethG rfl (by_of rfl) (IsP.sh (Is.var rfl) (IsP.sh (Is.addT (Is.tup (IsS.cons (Is.var rfl) IsS.nil)) (Is.slT (l := some 1) (h := none) ix (isSo Is.cst) isNo) ?_) IsP.nil)) rfl ?_
  · rw [cut1]; simp only [List.length_cons, List.length_nil]; omega
  rw [cut1]
  exact pG_no a h hd hm3 (rnm_ok hr nm) fun A' e => ⟨e, A', _, rfl, q A' e⟩
theorem pD_rn (h : RgOk n R ts) {m : Nat} {nm : Str} (hno : ∀ r, lk ts m = some r → eqS r.st "gone" = true ∨ inN nm r.nm = true) : Rz (c_rn a) [.rr R, .sh (keyI (kZ m)), .sh (.str nm)] a.x_BadDeed := fun Q E q => by
  unfold c_rn cOf u_rn
  cases hm : lk ts m with
  | none => exact rz_if (ρ := [.rr R, .sh (keyI (kZ m)), .sh (.str nm)]) (IsB.or1 (IsB.eq (by rw [hm]; rfl) (IsB.thIn rfl h.th rfl))) q
  | some r =>
    have ix : Is (wThIx 0 1) [.rr R, .sh (keyI (kZ m)), .sh (.str nm)] (rD r) := Is.thIx (m := m) rfl h.th rfl hm
    have t1 : IsB (wThIn true 0 1) [.rr R, .sh (keyI (kZ m)), .sh (.str nm)] false := IsB.eq (by rw [hm]; rfl) (IsB.thIn rfl h.th rfl)
    have t2 : IsB (wT (w2 (fEq false) (w2 fIx (wThIx 0 1) (wC (.int 1))) (wC (.str "gone")))) [.rr R, .sh (keyI (kZ m)), .sh (.str nm)] (eqS r.st "gone") := IsB.eq (by rw [if_neg (by decide)]; rfl) (IsB.T (Is.eq (n := false) (Is.ixT ix Is.cst rfl) Is.cst (pls _) (pls _)))
    have t3 : IsB (wT (w2 (fIn false) (wRd 2) (wTup (wCons (wC (.str "")) (wCons (w2 fIx (wThIx 0 1) (wC (.int 0))) wNil))))) [.rr R, .sh (keyI (kZ m)), .sh (.str nm)] (inN nm r.nm) := IsB.eq (by rw [if_neg (by decide)]; rfl) (IsB.T (Is.inT (n := false) (Is.rd rfl) (Is.tup (IsS.cons Is.cst (IsS.cons (Is.ixT ix Is.cst rfl) IsS.nil))) (pls _) (two_pl _ _)))
    refine rz_if (ρ := [.rr R, .sh (keyI (kZ m)), .sh (.str nm)]) (IsB.or2 t1 (IsB.eq (b := eqS r.st "gone" || inN nm r.nm) ?_ (IsB.or t2 fun _ => t3))) q
    rcases hno r hm with z | z <;> rw [z] <;> simp
theorem t_nil {ρ : En} {i : Nat} (f : LF) (h : ρ[i]? = some (.rr R)) (hd : ∀ p ∈ f.of R, DeOk p) : IsB (wLNil f i) ρ (f.of R).isEmpty := fun Q E q => ⟨R, h, deeds_pl hd, q⟩
theorem pD_un (h : R.deeds = []) : Rz (c_un a) [.rr R] a.x_BadDeed := fun Q E q => by
  unfold c_un cOf u_un
  exact rz_if (ρ := [.rr R, .un]) (IsB.eq (by show R.deeds.isEmpty = true; rw [h]; rfl) (t_nil .deeds rfl fun p hp => by have hp : p ∈ R.deeds := hp; rw [h] at hp; cases hp)) q
theorem pD_re (h : R.undone = []) : Rz (c_re a) [.rr R] a.x_BadDeed := fun Q E q => by
  unfold c_re cOf u_re
  exact rz_if (ρ := [.rr R, .un]) (IsB.eq (by show R.undone.isEmpty = true; rw [h]; rfl) (t_nil .undone rfl fun p hp => by have hp : p ∈ R.undone := hp; rw [h] at hp; cases hp)) q
theorem pG_un {ds : List (List PyData × List PyData)} {S1 S2 : Tab} (hd : ∀ p ∈ R.deeds, DeOk p) (e : R.deeds = ds ++ [(S1.map itE, S2.map itE)]) (hl : R.undone.length ≤ 1000) (h1 : TbOk n S1)
    (q : ∀ A', A'.b = A.b → Q A' { R with deeds := ds, undone := R.undone ++ [(S1.map itE, S2.map itE)], things := S1.map enc }) : cG_un a A R [] Q := by
  have t : IsB (wLendB 0 (wLNil .deeds 0)) [.rg A R, .un] false := IsB.eq (by show R.deeds.isEmpty = false; rw [e]; simp) (IsB.lend rfl (by_of rfl) (t_nil .deeds rfl hd))
  unfold cG_un cOfG uG_un
  refine go_if (ρ := [.rg A R, .un]) t ?_
  refine ⟨A, R, (S1.map itE, S2.map itE), rfl, by_of rfl, by decide, ?_, ?_⟩
  · show R.deeds[R.deeds.length - 1]? = _
    rw [e]; simp
  refine ⟨A, _, rfl, by_of rfl, ?_⟩
  refine ⟨_, rfl, U.lt_size (by show R.undone.length ≤ _; omega), ?_⟩
  refine ⟨A, _, rfl, by_of rfl, ?_⟩
  refine ⟨_, rows_tab h1, fun A' e' => ⟨A', _, rfl, ?_⟩⟩
  have : (LF.of .deeds R).dropLast = ds := by show R.deeds.dropLast = ds; rw [e]; simp
  rw [this]
  exact q A' e'
theorem pG_re {ds : List (List PyData × List PyData)} {S1 S2 : Tab} (hd : ∀ p ∈ R.undone, DeOk p) (e : R.undone = ds ++ [(S1.map itE, S2.map itE)]) (hl : R.deeds.length ≤ 1000) (h1 : TbOk n S2)
    (q : ∀ A', A'.b = A.b → Q A' { R with undone := ds, deeds := R.deeds ++ [(S1.map itE, S2.map itE)], things := S2.map enc }) : cG_re a A R [] Q := by
  have t : IsB (wLendB 0 (wLNil .undone 0)) [.rg A R, .un] false := IsB.eq (by show R.undone.isEmpty = false; rw [e]; simp) (IsB.lend rfl (by_of rfl) (t_nil .undone rfl hd))
  unfold cG_re cOfG uG_re
  refine go_if (ρ := [.rg A R, .un]) t ?_
  refine ⟨A, R, (S1.map itE, S2.map itE), rfl, by_of rfl, by decide, ?_, ?_⟩
  · show R.undone[R.undone.length - 1]? = _
    rw [e]; simp
  refine ⟨A, _, rfl, by_of rfl, ?_⟩
  refine ⟨_, rfl, U.lt_size (by show R.deeds.length ≤ _; omega), ?_⟩
  refine ⟨A, _, rfl, by_of rfl, ?_⟩
  refine ⟨_, rows_tab h1, fun A' e' => ⟨A', _, rfl, ?_⟩⟩
  have : (LF.of .undone R).dropLast = ds := by show R.undone.dropLast = ds; rw [e]; simp
  rw [this]
  exact q A' e'
end
end M17
set_option Elab.async false
set_option linter.all false
set_option maxRecDepth 100000
set_option maxHeartbeats 1000000
namespace M17
open PySem PySem.Spec PyProof.Rows L2 PL S17
def pr (Ss : List Tab) (i : Nat) : List PyData × List PyData := ((Ss.getD i []).map itE, (Ss.getD (i + 1) []).map itE)
structure Hist (n : Nat) (R : Reg) (Ss : List Tab) (p : Nat) (ts : Tab) : Prop where
  rg : RgOk n R ts
  ok : ∀ S ∈ Ss, TbOk n S ∧ srt S = S
  lt : p < Ss.length
  now : Ss.getD p [] = srt ts
  de : R.deeds = (List.range p).map (pr Ss)
  un : R.undone = (List.range (Ss.length - 1 - p)).map fun j => pr Ss (Ss.length - 2 - j)
section
variable {n : Nat} {R : Reg} {Ss : List Tab} {p : Nat} {ts : Tab}
theorem Hist.at (h : Hist n R Ss p ts) {i : Nat} (hi : i < Ss.length) : TbOk n (Ss.getD i []) ∧ srt (Ss.getD i []) = Ss.getD i [] := h.ok _ (by
  rw [List.getD_eq_getElem?_getD, List.getElem?_eq_getElem hi]
  exact List.getElem_mem hi)
theorem Hist.pr_ok (h : Hist n R Ss p ts) {i : Nat} (hi : i + 1 < Ss.length) : DeOk (pr Ss i) := ⟨n, _, _, (h.at (by omega)).1, (h.at hi).1, rfl⟩
theorem Hist.deOk (h : Hist n R Ss p ts) : ∀ q ∈ R.deeds, DeOk q := fun q hq => by
  rw [h.de] at hq
  obtain ⟨i, hi, rfl⟩ := List.mem_map.mp hq
  rw [List.mem_range] at hi
  have := h.lt
  exact h.pr_ok (by omega)
theorem Hist.unOk (h : Hist n R Ss p ts) : ∀ q ∈ R.undone, DeOk q := fun q hq => by
  rw [h.un] at hq
  obtain ⟨i, hi, rfl⟩ := List.mem_map.mp hq
  rw [List.mem_range] at hi
  have := h.lt
  exact h.pr_ok (by omega)
theorem Hist.deLen (h : Hist n R Ss p ts) : R.deeds.length = p := by rw [h.de, List.length_map, List.length_range]
theorem Hist.unLen (h : Hist n R Ss p ts) : R.undone.length = Ss.length - 1 - p := by rw [h.un, List.length_map, List.length_range]
theorem Hist.more (h : Hist n R Ss p ts) {m : Nat} (le : n ≤ m) : Hist m R Ss p ts := ⟨⟨h.rg.th, h.rg.ok.more le, h.rg.rm⟩, fun S hS => ⟨(h.ok S hS).1.more le, (h.ok S hS).2⟩, h.lt, h.now, h.de, h.un⟩
theorem hist0 : Hist 0 ⟨[2, 1], [], [], []⟩ [[]] 0 [] := by
  have h0 : TbOk 0 [] := ⟨List.nodup_nil, (fun p hp => by cases hp), (fun p hp => by cases hp)⟩
  have e : srt [] = [] := rfl
  exact ⟨⟨rfl, h0, rfl⟩, fun S hS => by rw [List.mem_singleton.mp hS]; exact ⟨h0, e⟩, by decide, by rw [e]; rfl, rfl, rfl⟩
/-- a step back -/
theorem Hist.undo (h : Hist n R Ss (p + 1) ts) : R.deeds = (List.range p).map (pr Ss) ++ [((Ss.getD p []).map itE, (Ss.getD (p + 1) []).map itE)] ∧
    Hist n { R with deeds := (List.range p).map (pr Ss), undone := R.undone ++ [((Ss.getD p []).map itE, (Ss.getD (p + 1) []).map itE)], things := (Ss.getD p []).map enc } Ss p (Ss.getD p []) := by
  have hl := h.lt
  have hp := h.at (i := p) (by omega)
  refine ⟨?_, ⟨rfl, hp.1, h.rg.rm⟩, h.ok, by omega, hp.2.symm, rfl, ?_⟩
  · rw [h.de, List.range_succ, List.map_append]; rfl
  · show R.undone ++ _ = _
    rw [h.un, show Ss.length - 1 - p = (Ss.length - 1 - (p + 1)) + 1 by omega, List.range_succ, List.map_append, List.map_singleton, show Ss.length - 2 - (Ss.length - 1 - (p + 1)) = p by omega]
    rfl
/-- a step forward -/
theorem Hist.redo (h : Hist n R Ss p ts) (hl : p + 1 < Ss.length) : R.undone = ((List.range (Ss.length - 1 - (p + 1))).map fun j => pr Ss (Ss.length - 2 - j)) ++ [((Ss.getD p []).map itE, (Ss.getD (p + 1) []).map itE)] ∧
    Hist n { R with undone := (List.range (Ss.length - 1 - (p + 1))).map fun j => pr Ss (Ss.length - 2 - j), deeds := R.deeds ++ [((Ss.getD p []).map itE, (Ss.getD (p + 1) []).map itE)], things := (Ss.getD (p + 1) []).map enc } Ss (p + 1) (Ss.getD (p + 1) []) := by
  have hp := h.at hl
  refine ⟨?_, ⟨rfl, hp.1, h.rg.rm⟩, h.ok, hl, hp.2.symm, ?_, rfl⟩
  · rw [h.un, show Ss.length - 1 - p = (Ss.length - 1 - (p + 1)) + 1 by omega, List.range_succ, List.map_append, List.map_singleton, show Ss.length - 2 - (Ss.length - 1 - (p + 1)) = p by omega]
    rfl
  · show R.deeds ++ _ = _
    rw [h.de, List.range_succ, List.map_append]; rfl
/-- a deed -/
theorem Hist.note (h : Hist n R Ss p ts) {m : Nat} {r : Rw} (hm : m < 3) (hr : RwOk (n + 1) r) : Hist (n + 1) (noted R ts m r) (Ss.take (p + 1) ++ [srt (put ts m r)]) (p + 1) (put ts m r) := by
  have hl := h.lt
  have h1 := h.more (m := n + 1) (by omega)
  have ht : (Ss.take (p + 1)).length = p + 1 := by rw [List.length_take]; omega
  have hL : (Ss.take (p + 1) ++ [srt (put ts m r)]).length = p + 2 := by rw [List.length_append, ht]; rfl
  have hput : TbOk (n + 1) (put ts m r) := h1.rg.ok.put hm hr
  have old : ∀ i ≤ p, (Ss.take (p + 1) ++ [srt (put ts m r)]).getD i [] = Ss.getD i [] := fun i hi => by
    rw [List.getD_eq_getElem?_getD, List.getD_eq_getElem?_getD, List.getElem?_append_left (by omega), List.getElem?_take_of_lt (by omega)]
  have new : (Ss.take (p + 1) ++ [srt (put ts m r)]).getD (p + 1) [] = srt (put ts m r) := by
    rw [List.getD_eq_getElem?_getD, List.getElem?_append_right (by omega), ht, Nat.sub_self]
    rfl
  refine ⟨⟨rfl, hput, h.rg.rm⟩, fun S hS => ?_, by omega, new, ?_, ?_⟩
  · rcases List.mem_append.mp hS with hS | hS
    · exact h1.ok _ (List.mem_of_mem_take hS)
    · rw [List.mem_singleton.mp hS]; exact ⟨hput.srt, srt_srt _⟩
  · show R.deeds ++ _ = _
    rw [h.de, List.range_succ, List.map_append, List.map_singleton]
    congr 1
    · refine List.map_congr_left fun i hi => ?_
      rw [List.mem_range] at hi
      unfold pr
      rw [old i (by omega), old (i + 1) (by omega)]
    · unfold pr
      rw [old p (by omega), new, h.now]
  · rw [hL, show p + 2 - 1 - (p + 1) = 0 by omega]
    rfl
end
end M17
set_option Elab.async false
set_option linter.all false
set_option maxRecDepth 100000
set_option maxHeartbeats 1000000
namespace M17
open PySem PySem.Spec PyProof.Rows L2 PL S17
def dO : Option Rw → PyData
  | none => .none
  | some r => rD r
def stS : Option Rw → Str
  | none => ""
  | some r => r.st
def full (o : Int) (S : Tab) : Int := ((shL "shown" (.int o) S).length : Int)
def due (j : Nat) (x : Option Rw) (S : Tab) (o : Int) (nm : Str) : Option Rw := match j with
  | 0 => match x with
    | none => if (!eqS nm "") = true then some (newRw nm) else none
    | some _ => none
  | 1 => x.bind fun r => if inS ["in", "shown", "lent"] r.st = true then some (dst r "store" .none) else none
  | 2 => x.bind fun r => if (inS ["store"] r.st && (decide (o < 2) && decide (full o S < rm o))) = true then some (dst r "shown" (.int o)) else none
  | 3 => x.bind fun r => if (inS ["store"] r.st && !eqS nm "") = true then some (dst r "lent" (.str nm)) else none
  | 4 => x.bind fun r => if inS ["store"] r.st = true then some (dst r "gone" .none) else none
  | _ => x.bind fun r => if (!eqS r.st "gone" && !inN nm r.nm) = true then some (rnm r nm) else none
theorem dO_if {b : Bool} {r : Rw} : dO (if b = true then some r else none) = if b = true then rD r else .none := by cases b <;> rfl
theorem eq_store (s : Str) : eqS s "store" = inS ["store"] s := by
  unfold eqS inS
  rw [U.eqv_str]
  show _ = (PyData.eqv (.str "store") (.str s) || false)
  rw [U.eqv_str, Bool.or_false]
  exact decide_eq_decide.mpr eq_comm
section
variable {ρ : En} {u v w : PW} {s t : PWB} {x y : PyData} {b c : Bool} {i j : Nat}
theorem Is.ite (h : IsB t ρ b) (h1 : b = true → Is u ρ x) (h2 : b = false → Is v ρ y) : Is (wIf t u v) ρ (if b = true then x else y) := by
  cases b
  · exact Is.if2 h (h2 rfl)
  · exact Is.if1 h (h1 rfl)
theorem Is.conv (h : Is u ρ x) (e : x = y) : Is u ρ y := e ▸ h
variable {z z1 z2 : SZ} {Z : ZK}
theorem zset (h : Is w ρ x) (q : z (ρ.set i (.sh x)) Z) : zSeq (sSet i w) z ρ Z := h _ _ q
theorem zif1 (h : IsB t ρ true) (q : z1 ρ Z) : zIf t z1 z2 ρ Z := h _ _ (by rw [if_pos rfl]; exact q)
theorem zif2 (h : IsB t ρ false) (q : z2 ρ Z) : zIf t z1 z2 ρ Z := h _ _ (by rw [if_neg (by decide)]; exact q)
theorem zret {l : LamD} (h4 : ∃ d, ρ[4]? = some (.sh d)) (h : Is w ρ x) (q : Z ρ x l) : zRet 4 w l ρ Z := ⟨h4, h _ _ q⟩
/-- dict(now).get(thing, None) -/
theorem Is.dictI {n : Nat} {S : Tab} (h : Is w ρ (ptM (S.map itE))) (ok : TbOk n S) : Is (wDictI w) ρ (dctI (S.map enc)) := fun Q E q => h _ _ ⟨_, rows_tab ok, q⟩
theorem at_tab (S : Tab) (m : Nat) : ∃ ps, dctI (S.map enc) = .dict ps ∧ Nm ps ∧ atSl (.sh (.dict ps)) (keyI (kZ m)) = some ((lk S m).map rD) := by
  cases S with
  | nil => exact ⟨_, rfl, fun b d e => (by cases e), rfl⟩
  | cons p r =>
    refine ⟨_, rfl, fun b d e => (by cases e), ?_⟩
    have e : ((p :: r).map enc).map (fun p => (keyI p.1, p.2)) = ((p :: r).map fun q => (ik (kZ q.1), rD q.2)).map fun q : List Key × PyData => (PyData.tuple (q.1.map keyD), q.2) := by
      rw [List.map_map, List.map_map]
      rfl
    have h : parseT (((p :: r).map enc).map fun p => (keyI p.1, p.2)) = some ((p :: r).map fun q => (ik (kZ q.1), rD q.2)) := by
      rw [e]; exact parseT_map _
    show atDc (((p :: r).map enc).map fun p => (keyI p.1, p.2)) (keyI (kZ m)) = _
    have h2 : atDc (((p :: r).map enc).map fun p => (keyI p.1, p.2)) (keyI (kZ m)) = (parseT (((p :: r).map enc).map fun p => (keyI p.1, p.2))).map fun kvs => lookK kvs (ik (kZ m)) := rfl
    rw [h2, h]
    show some _ = _
    rw [← lk_map (fun k => ik (kZ k)) (fun _ _ => ikZ_inj)]
theorem Is.vget {S : Tab} {m : Nat} {wk : PW} (ho : Is w ρ (dctI (S.map enc))) (hk : Is wk ρ (keyI (kZ m))) : Is (wVGet w wk (wC .none)) ρ (dO (lk S m)) := fun Q E q => ho _ _ (by
  obtain ⟨ps, e, h1, h2⟩ := at_tab S m
  rw [e]
  refine ⟨h1, hk _ _ ?_⟩
  show dGet (atSl (.sh (.dict ps)) (keyI (kZ m))) .none Q
  rw [h2]
  show Q (((lk S m).map rD).getD .none)
  cases e2 : lk S m with
  | none => rw [e2] at q; exact q
  | some r => rw [e2] at q; exact q)
theorem Is.roll (a : Ad) {n : Int} {Q : PyData → Prop} {E : Exn → Prop} (hi : ρ[1]? = some .dice) (h0 : 0 < n) (h1 : n < 1073741824) (h : ∀ r : Int, 0 ≤ r → r < n → Q (.int r)) : wCall 2 (c__law_roll a) (wpDc 1 (wpSh (wC (.int n)) wpNil)) ρ Q E := ⟨hi, rfl, p_roll a n _ _ h0 h1 h⟩
theorem Is.row {r : Rw} {wx : PW} {s : Str} (h7 : ρ[7]? = some (.sh (rD r))) (hl : r.ps.length ≤ 1000) (hx : Is wx ρ y) :
    Is (wTup (wCons (w2 fIx (wRd 7) (wC (.int 0))) (wCons (wC (.str s)) (wCons wx (wCons (w2 fAdd (w2 fIx (wRd 7) (wC (.int 3))) (wTup (wCons (wTup (wCons (wC (.str s)) (wCons wx wNil))) wNil))) wNil))))) ρ (rD (dst r s y)) := by
  have e : PyData.tuple [.str r.nm, .str s, y, .tuple (r.ps.map pD ++ [.tuple [.str s, y]])] = rD (dst r s y) := by
    unfold rD dst
    rw [List.map_append]; rfl
  rw [← e]
  refine Is.tup (IsS.cons (Is.ixT (Is.rd h7) Is.cst rfl) (IsS.cons Is.cst (IsS.cons hx (IsS.cons (Is.addT (Is.ixT (Is.rd h7) Is.cst rfl) (Is.tup (IsS.cons (Is.tup (IsS.cons Is.cst (IsS.cons hx IsS.nil))) IsS.nil)) ?_) IsS.nil))))
  rw [List.length_map]
  simp only [List.length_cons, List.length_nil]
  omega
end
abbrev eD (b : Addr) (S : Tab) (k : Int) (m : Nat) (o : Int) (nm : Str) (x : Option Rw) (s9 s10 s11 s12 s13 : Sl) : En := [.sh (mk b), .dice, .sh (ptM (S.map itE)), .sh (.int k), .sh (keyI (kZ m)), .sh (.int o), .sh (.str nm), .sh (dO x), .sh (.str (stS x)), s9, s10, s11, s12, s13]
section
variable {b : Addr} {S : Tab} {k : Int} {m : Nat} {o : Int} {nm : Str} {x : Option Rw} {s9 s10 s11 s12 s13 : Sl} {n : Nat}
theorem t_str {ρ : En} {i : Nat} {z : Str} (h : ρ[i]? = some (.sh (.str z))) (y : Str) : Is (w2 (fEq false) (wRd i) (wC (.str y))) ρ (.bool (eqS z y)) := (Is.eq (n := false) (Is.rd h) Is.cst (pls _) (pls _)).conv (by rw [if_neg (by decide)]; rfl)
theorem t_strN {ρ : En} {i : Nat} {z : Str} (h : ρ[i]? = some (.sh (.str z))) (y : Str) : Is (w2 (fEq true) (wRd i) (wC (.str y))) ρ (.bool (!eqS z y)) := (Is.eq (n := true) (Is.rd h) Is.cst (pls _) (pls _)).conv (by rw [if_pos rfl]; rfl)
theorem t_store {ρ : En} {i : Nat} {z : Str} (h : ρ[i]? = some (.sh (.str z))) : Is (w2 (fEq false) (wRd i) (wC (.str "store"))) ρ (.bool (inS ["store"] z)) := by
  rw [← eq_store]; exact t_str h "store"
theorem d_0 : Is (wIf (wAnd (wT (w2 fIsN (wRd 7) (wC .none))) (wT (w2 (fEq true) (wRd 6) (wC (.str ""))))) (wTup (wCons (wVar 6) (wCons (wC (.str "in")) (wCons (wC .none) (wCons (wTup (wCons (wTup (wCons (wC (.str "in")) (wCons (wC .none) wNil))) wNil)) wNil))))) (wC .none)) (eD b S k m o nm x s9 s10 s11 s12 s13) (dO (due 0 x S o nm)) := by
  cases x with
  | none =>
    show Is _ _ (dO (if (!eqS nm "") = true then some (newRw nm) else none))
    rw [dO_if]
    refine Is.ite (IsB.and2 (IsB.T (Is.isN (x := .none) (Is.rd rfl))) (IsB.T (t_strN rfl ""))) (fun _ => ?_) (fun _ => Is.cst)
    show Is _ _ (.tuple [.str nm, .str "in", .none, .tuple [.tuple [.str "in", .none]]])
    exact Is.tup (IsS.cons (Is.var rfl) (IsS.cons Is.cst (IsS.cons Is.cst (IsS.cons (Is.tup (IsS.cons (Is.tup (IsS.cons Is.cst (IsS.cons Is.cst IsS.nil))) IsS.nil)) IsS.nil))))
  | some r => exact Is.if2 (IsB.and1 (IsB.T (Is.isN (x := rD r) (Is.rd rfl)))) Is.cst
theorem pl_strL (sts : List Str) : Pl (.list (sts.map .str)) := by
  have := lst_plain (xs := sts.map PyData.str) 0 fun x hx => by
    obtain ⟨p, _, rfl⟩ := List.mem_map.mp hx
    exact ⟨rfl, Nat.zero_le _⟩
  exact ⟨this.1, by have := this.2; omega⟩
theorem d_1 (hx : ∀ r, x = some r → r.ps.length ≤ 1000) : Is (wIf (wT (w2 (fIn false) (wRd 8) (wLst (wCons (wC (.str "in")) (wCons (wC (.str "shown")) (wCons (wC (.str "lent")) wNil)))))) (wTup (wCons (w2 fIx (wRd 7) (wC (.int 0))) (wCons (wC (.str "store")) (wCons (wC .none) (wCons (w2 fAdd (w2 fIx (wRd 7) (wC (.int 3))) (wTup (wCons (wTup (wCons (wC (.str "store")) (wCons (wC .none) wNil))) wNil))) wNil))))) (wC .none)) (eD b S k m o nm x s9 s10 s11 s12 s13) (dO (due 1 x S o nm)) := by
  have t : IsB (wT (w2 (fIn false) (wRd 8) (wLst (wCons (wC (.str "in")) (wCons (wC (.str "shown")) (wCons (wC (.str "lent")) wNil)))))) (eD b S k m o nm x s9 s10 s11 s12 s13) (inS ["in", "shown", "lent"] (stS x)) :=
    IsB.T ((Is.inL (n := false) (ys := (["in", "shown", "lent"] : List Str).map .str) (Is.rd rfl) (Is.lst (IsS.cons Is.cst (IsS.cons Is.cst (IsS.cons Is.cst IsS.nil)))) (pls _) (pl_strL _)).conv (by rw [if_neg (by decide)]; rfl))
  cases x with
  | none => exact Is.if2 (IsB.eq (by simp only [inS, stS, U.eqv_str, List.map_cons, List.map_nil, List.any_cons, List.any_nil]; decide) t) Is.cst
  | some r =>
    show Is _ _ (dO (if inS ["in", "shown", "lent"] r.st = true then some (dst r "store" .none) else none))
    rw [dO_if]
    exact Is.ite t (fun _ => Is.row rfl (hx r rfl) Is.cst) fun _ => Is.cst
theorem no_store : inS ["store"] "" = false := by simp only [inS, U.eqv_str, List.map_cons, List.map_nil, List.any_cons, List.any_nil]; decide
theorem d_4 (hx : ∀ r, x = some r → r.ps.length ≤ 1000) : Is (wIf (wT (w2 (fEq false) (wRd 8) (wC (.str "store")))) (wTup (wCons (w2 fIx (wRd 7) (wC (.int 0))) (wCons (wC (.str "gone")) (wCons (wC .none) (wCons (w2 fAdd (w2 fIx (wRd 7) (wC (.int 3))) (wTup (wCons (wTup (wCons (wC (.str "gone")) (wCons (wC .none) wNil))) wNil))) wNil))))) (wC .none)) (eD b S k m o nm x s9 s10 s11 s12 s13) (dO (due 4 x S o nm)) := by
  have t : IsB (wT (w2 (fEq false) (wRd 8) (wC (.str "store")))) (eD b S k m o nm x s9 s10 s11 s12 s13) (inS ["store"] (stS x)) := IsB.T (t_store rfl)
  cases x with
  | none => exact Is.if2 (IsB.eq no_store t) Is.cst
  | some r =>
    show Is _ _ (dO (if inS ["store"] r.st = true then some (dst r "gone" .none) else none))
    rw [dO_if]
    exact Is.ite t (fun _ => Is.row rfl (hx r rfl) Is.cst) fun _ => Is.cst
/-- lent -/
theorem t_3 : Is (wAndV (w2 (fEq false) (wRd 8) (wC (.str "store"))) (w2 (fEq true) (wRd 6) (wC (.str "")))) (eD b S k m o nm x s9 s10 s11 s12 s13) (.bool (inS ["store"] (stS x) && !eqS nm "")) := Is.andV (t_store rfl) fun _ => t_strN rfl ""
theorem d_3 (hx : ∀ r, x = some r → r.ps.length ≤ 1000) : Is (wIf (wT (wVar 11)) (wTup (wCons (w2 fIx (wRd 7) (wC (.int 0))) (wCons (wC (.str "lent")) (wCons (wVar 6) (wCons (w2 fAdd (w2 fIx (wRd 7) (wC (.int 3))) (wTup (wCons (wTup (wCons (wC (.str "lent")) (wCons (wVar 6) wNil))) wNil))) wNil))))) (wC .none)) (eD b S k m o nm x s9 s10 (.sh (.bool (inS ["store"] (stS x) && !eqS nm ""))) s12 s13) (dO (due 3 x S o nm)) := by
  cases x with
  | none => exact Is.if2 (IsB.eq (by rw [show stS none = "" from rfl, no_store]; rfl) (IsB.T (Is.var rfl))) Is.cst
  | some r =>
    show Is _ _ (dO (if (inS ["store"] r.st && !eqS nm "") = true then some (dst r "lent" (.str nm)) else none))
    rw [dO_if]
    exact Is.ite (IsB.T (Is.var rfl)) (fun _ => Is.row rfl (hx r rfl) (Is.var rfl)) fun _ => Is.cst
/-- another name -/
theorem t_5 : Is (wAndV (w2 fNotN (wRd 7) (wC .none)) (wAndV (w2 (fEq true) (wRd 8) (wC (.str "gone"))) (w2 (fIn true) (wRd 6) (wLst (wCons (wC (.str "")) (wCons (w2 fIx (wRd 7) (wC (.int 0))) wNil)))))) (eD b S k m o nm x s9 s10 s11 s12 s13) (.bool (match x with
    | none => false
    | some r => !eqS r.st "gone" && !inN nm r.nm)) := by
  cases x with
  | none => exact fun Q E q => ⟨rfl, q⟩
  | some r =>
    have h := Is.andV (ρ := eD b S k m o nm (some r) s9 s10 s11 s12 s13) (b := true) ((Is.notN (x := rD r) (Is.rd (i := 7) rfl)).conv rfl) fun _ => Is.andV (t_strN (i := 8) rfl "gone") fun _ => Is.inL (n := true) (ys := [.str "", .str r.nm]) (Is.rd (i := 6) rfl) (Is.lst (IsS.cons Is.cst (IsS.cons (Is.ixT (xs := [.str r.nm, .str r.st, r.pl, .tuple (r.ps.map pD)]) (n := 0) (Is.rd (i := 7) rfl) Is.cst rfl) IsS.nil))) (pls _) (pl_strL ["", r.nm])
    exact h
theorem d_5 : Is (wIf (wT (wVar 11)) (w2 fAdd (wTup (wCons (wVar 6) wNil)) (wSl fSlS (wRd 7) (wSo (wC (.int 1))) wNo)) (wC .none)) (eD b S k m o nm x s9 s10 (.sh (.bool (match x with
    | none => false
    | some r => !eqS r.st "gone" && !inN nm r.nm))) s12 s13) (dO (due 5 x S o nm)) := by
  cases x with
  | none => exact Is.if2 (IsB.T (Is.var rfl)) Is.cst
  | some r =>
    show Is _ _ (dO (if (!eqS r.st "gone" && !inN nm r.nm) = true then some (rnm r nm) else none))
    rw [dO_if]
    refine Is.ite (IsB.T (Is.var rfl)) (fun _ => ?_) fun _ => Is.cst
    refine (Is.addT (Is.tup (IsS.cons (Is.var rfl) IsS.nil)) (Is.slT (xs := [.str r.nm, .str r.st, r.pl, .tuple (r.ps.map pD)]) (l := some 1) (h := none) (Is.rd rfl) (isSo Is.cst) isNo) ?_).conv ?_
    · rw [cut1]; simp only [List.length_cons, List.length_nil]; omega
    · rw [cut1]; rfl
/-- shown -/
theorem cut13 (a b c d : PyData) : PL.cutD [a, b, c, d] (some 1) (some 3) = [b, c] := rfl
theorem two_sc (s : Str) {d : PyData} (h : Sc d) : Pl (.tuple [.str s, d]) := by
  have := pD_plain (p := (s, d)) h
  exact ⟨this.1, by have := this.2; show (pD (s, d)).depth ≤ _; omega⟩
theorem eqv_two (x y : Str) (d e : PyData) : PyData.eqv (.tuple [.str x, d]) (.tuple [.str y, e]) = (PyData.eqv (.str x) (.str y) && PyData.eqv d e) := by
  simp [PyData.eqv, PyData.eqvAll]
theorem t_row {ρ : En} {i : Nat} {p : Nat × Rw} {w : PW} {s : Str} {y : PyData} (hr : RwOk n p.2) (hi : ρ[i]? = some (.sh (rD p.2))) (hw : Is w ρ y) (hy : Sc y) : IsB (wT (w2 (fEq false) (wSl fSlS (wRd i) (wSo (wC (.int 1))) (wSo (wC (.int 3)))) (wTup (wCons (wC (.str s)) (wCons w wNil))))) ρ (shW s y p) := by
  refine IsB.T ((Is.eq (n := false) (Is.slT (xs := [.str p.2.nm, .str p.2.st, p.2.pl, .tuple (p.2.ps.map pD)]) (l := some 1) (h := some 3) (Is.rd hi) (isSo Is.cst) (isSo Is.cst)) (Is.tup (IsS.cons Is.cst (IsS.cons hw IsS.nil))) ?_ ?_).conv ?_)
  · rw [cut13]; exact two_sc _ hr.pl
  · exact two_sc _ hy
  · rw [cut13, if_neg (by decide), eqv_two]; rfl
theorem d_full (ok : TbOk n S) : Is (w1 fLen (wLc (wItT (wUnp (wVar 2))) (gTupD 2 (gConsD (gNameD 12) (gConsD (gNameD 13) gNilD))) (wT (w2 (fEq false) (wSl fSlS (wRd 13) (wSo (wC (.int 1))) (wSo (wC (.int 3)))) (wTup (wCons (wC (.str "shown")) (wCons (wVar 5) wNil))))) (wC (.int 1)) [12, 13])) (eD b S k m o nm x s9 s10 s11 .un .un) (.int (full o S)) := by
  refine (Is.lenL (Is.lc2 (i := 12) (j := 13) (A := kD) (B := fun p => rD p.2) (O := fun _ => .int 1) (f := shW "shown" (.int o)) (l := S) (U.noown rfl) (rows_of S (Is.unp (Is.var rfl))) (by have := ok.len; omega) (fun p hp => ?_) (fun p hp _ => Is.cst))).conv ?_
  · exact t_row (ok.ok p hp) rfl (Is.var rfl) (.inr (.inl ⟨o, rfl⟩))
  · unfold full shL
    rw [List.length_map, List.length_map]
theorem rm_min (o : Int) (h0 : 0 ≤ o) (h2 : o < 2) : atI [PyData.int 2, .int 1] (if (1 : Int) < o then 1 else o) = some (.int (rm o)) := by
  have : o = 0 ∨ o = 1 := by omega
  rcases this with rfl | rfl <;> rfl
theorem t_2 {s9 s11 s12 s13 : Sl} (h0 : 0 ≤ o) : Is (wAndV (w2 (fEq false) (wRd 8) (wC (.str "store"))) (wAndV (w2 (PL.fC fun i j => decide (i < j)) (wRd 5) (wC (.int 2))) (w2 (PL.fC fun i j => decide (i < j)) (wRd 10) (w2 fIx (wLst (wCons (wC (.int 2)) (wCons (wC (.int 1)) wNil))) (wA fMin2 (wCons (wVar 5) (wCons (wC (.int 1)) wNil))))))) (eD b S k m o nm x s9 (.sh (.int (full o S))) s11 s12 s13) (.bool (inS ["store"] (stS x) && (decide (o < 2) && decide (full o S < rm o)))) := by
  refine Is.andV (t_store rfl) fun _ => Is.andV (Is.fC (Is.rd rfl) Is.cst) fun h2 => Is.fC (Is.rd rfl) (Is.ixL (xs := [.int 2, .int 1]) (Is.lst (IsS.cons Is.cst (IsS.cons Is.cst IsS.nil))) (n := if (1 : Int) < o then 1 else o) ?_ (rm_min o h0 (of_decide_eq_true h2)))
  exact fun Q E q => q
theorem d_2 (hx : ∀ r, x = some r → r.ps.length ≤ 1000) : Is (wIf (wT (wVar 11)) (wTup (wCons (w2 fIx (wRd 7) (wC (.int 0))) (wCons (wC (.str "shown")) (wCons (wVar 5) (wCons (w2 fAdd (w2 fIx (wRd 7) (wC (.int 3))) (wTup (wCons (wTup (wCons (wC (.str "shown")) (wCons (wVar 5) wNil))) wNil))) wNil))))) (wC .none)) (eD b S k m o nm x s9 s10 (.sh (.bool (inS ["store"] (stS x) && (decide (o < 2) && decide (full o S < rm o))))) s12 s13) (dO (due 2 x S o nm)) := by
  cases x with
  | none => exact Is.if2 (IsB.eq (by rw [show stS none = "" from rfl, no_store]; rfl) (IsB.T (Is.var rfl))) Is.cst
  | some r =>
    show Is _ _ (dO (if (inS ["store"] r.st && (decide (o < 2) && decide (full o S < rm o))) = true then some (dst r "shown" (.int o)) else none))
    rw [dO_if]
    exact Is.ite (IsB.T (Is.var rfl)) (fun _ => Is.row rfl (hx r rfl) (Is.var rfl)) fun _ => Is.cst
end
end M17
set_option Elab.async false
set_option linter.all false
set_option maxRecDepth 100000
set_option maxHeartbeats 1000000
namespace M17
open PySem PySem.Spec PyProof.Rows L2 PL S17
theorem z_par (a : Ad) {z : SZ} {ρ : En} {Z : ZK} (hi : ρ[1]? = some .dice) (h : ∀ (k : Int) (m : Nat) (o : Int) (nm : Str), m < 3 → 0 ≤ o → o < 3 → z (setE ρ [3, 4, 5, 6] [.sh (.int k), .sh (keyI (kZ m)), .sh (.int o), .sh (.str nm)]) Z) :
    zSeq (sParN [3, 4, 5, 6] (wpSh (wCall 2 (c__law_roll a) (wpDc 1 (wpSh (wC (.int 9)) wpNil))) (wpSh (wTup (wCons (wC (.int 1900)) (wCons (wC (.int 0)) (wCons (wCall 2 (c__law_roll a) (wpDc 1 (wpSh (wC (.int 3)) wpNil))) wNil)))) (wpSh (wCall 2 (c__law_roll a) (wpDc 1 (wpSh (wC (.int 3)) wpNil))) (wpSh (w2 fIx (wLst (wCons (wC (.str "")) (wCons (wC (.str "a")) (wCons (wC (.str "b")) wNil)))) (wCall 2 (c__law_roll a) (wpDc 1 (wpSh (wC (.int 3)) wpNil)))) wpNil))))) z ρ Z := by
  have s3 := sz3
  refine Is.roll a hi (by decide) (by decide) fun k k0 k9 => ?_
  refine Is.roll a hi (by decide) (by decide) fun m m0 m3 => ⟨s3, ?_⟩
  refine Is.roll a hi (by decide) (by decide) fun o o0 o3 => ?_
  refine ⟨s3, Is.roll a hi (by decide) (by decide) fun r r0 r3 => ?_⟩
  obtain ⟨m', rfl⟩ : ∃ m' : Nat, m = m' := ⟨m.toNat, by omega⟩
  have c : r = 0 ∨ r = 1 ∨ r = 2 := by omega
  rcases c with rfl | rfl | rfl
  · exact ⟨rfl, h k m' o "" (by omega) o0 o3⟩
  · exact ⟨rfl, h k m' o "a" (by omega) o0 o3⟩
  · exact ⟨rfl, h k m' o "b" (by omega) o0 o3⟩
theorem t_state {ρ : En} {x : Option Rw} (h : ρ[7]? = some (.sh (dO x))) : Is (wIf (wT (w2 fNotN (wRd 7) (wC .none))) (w2 fIx (wRd 7) (wC (.int 1))) (wC (.str ""))) ρ (.str (stS x)) := by
  cases x with
  | none => exact Is.if2 (IsB.T (Is.notN (x := .none) (Is.rd h))) Is.cst
  | some r => exact Is.if1 (IsB.T (Is.notN (x := rD r) (Is.rd h))) (Is.ixT (xs := [.str r.nm, .str r.st, r.pl, .tuple (r.ps.map pD)]) (Is.rd h) Is.cst rfl)
theorem lsz_mem {j : Nat} (h : j < 6) : lz j ∈ lsz := by
  match j, h with
  | 0, _ => exact List.mem_cons_self
  | 1, _ => exact List.mem_cons_of_mem _ List.mem_cons_self
  | 2, _ => exact List.mem_cons_of_mem _ (List.mem_cons_of_mem _ List.mem_cons_self)
  | 3, _ => exact List.mem_cons_of_mem _ (List.mem_cons_of_mem _ (List.mem_cons_of_mem _ List.mem_cons_self))
  | 4, _ => exact List.mem_cons_of_mem _ (List.mem_cons_of_mem _ (List.mem_cons_of_mem _ (List.mem_cons_of_mem _ List.mem_cons_self)))
  | 5, _ => exact List.mem_cons_of_mem _ (List.mem_cons_of_mem _ (List.mem_cons_of_mem _ (List.mem_cons_of_mem _ (List.mem_cons_of_mem _ List.mem_cons_self))))
theorem t_lt {ρ : En} {k n : Int} {i : Nat} {b : Bool} (h : ρ[i]? = some (.sh (.int k))) (e : decide (k < n) = b) : IsB (wT (w2 (PL.fC fun i j => decide (i < j)) (wRd i) (wC (.int n)))) ρ b := IsB.eq e (IsB.T (Is.fC (Is.rd h) Is.cst))
theorem t_ik {ρ : En} {k n : Int} {i : Nat} {b : Bool} (h : ρ[i]? = some (.sh (.int k))) (e : decide (k = n) = b) : IsB (wT (w2 (fEq false) (wRd i) (wC (.int n)))) ρ b := IsB.eq (by rw [if_neg (by decide), U.eqv_int]; exact e) (IsB.T (Is.eq (n := false) (Is.rd h) Is.cst (U.pl_int _) (U.pl_int _)))
theorem env17 (x y z : Sl) : ([x, y, z] : En) ++ List.replicate (N__law_deed.length - ([x, y, z] : En).length) .un = [x, y, z, .un, .un, .un, .un, .un, .un, .un, .un, .un, .un, .un] := rfl
theorem open17 (a : Ad) (x y z : Sl) (Z : ZK) (h : u__law_deed a [x, y, z, .un, .un, .un, .un, .un, .un, .un, .un, .un, .un, .un] (fun ρ' d2 l => (∀ i ∈ [0, 4, 5, 6], ∃ d, ρ'[i]? = some (.sh d)) ∧ l ∈ lsz ∧ Z ρ' d2 l)) : c__law_deed a [x, y, z] Z := by
  unfold c__law_deed cOfZ
  rw [env17]
  exact h
theorem p_deed (a : Ad) {b : Addr} {n : Nat} {S : Tab} (ok : TbOk n S) (hn : n ≤ 1000) (Z : ZK)
    (hz : ∀ (j m : Nat) (o : Int) (nm : Str) (ρ' : En), j < 6 → m < 3 → 0 ≤ o → o < 3 → ρ'[0]? = some (.sh (mk b)) → ρ'[4]? = some (.sh (keyI (kZ m))) → ρ'[5]? = some (.sh (.int o)) → ρ'[6]? = some (.sh (.str nm)) → Z ρ' (dO (due j (lk S m) S o nm)) (lz j)) :
    c__law_deed a [.sh (mk b), .dice, .sh (ptM (S.map itE))] Z := by
  refine open17 a _ _ _ Z ?_
  unfold u__law_deed
  refine z_par a rfl fun k m o nm m3 o0 o3 => ?_
  refine zset (Is.vget (m := m) (S := S) (Is.dictI (Is.var rfl) ok) (Is.var rfl)) ?_
  refine zset (t_state (x := lk S m) rfl) ?_
  have hx : ∀ r, lk S m = some r → r.ps.length ≤ 1000 := fun r e => Nat.le_trans (ok.ok _ (lk_mem e)).len hn
  have fin : ∀ (j : Nat) (w : PW) (s9 s10 s11 s12 s13 : Sl), j < 6 → Is w (eD b S k m o nm (lk S m) s9 s10 s11 s12 s13) (dO (due j (lk S m) S o nm)) → zRet 4 w (lz j) (eD b S k m o nm (lk S m) s9 s10 s11 s12 s13) (fun ρ' d2 l => (∀ i ∈ [0, 4, 5, 6], ∃ d, ρ'[i]? = some (.sh d)) ∧ l ∈ lsz ∧ Z ρ' d2 l) := fun j w s9 s10 s11 s12 s13 hj hw =>
    zret ⟨_, rfl⟩ hw ⟨fun i hi => by
      simp only [List.mem_cons, List.not_mem_nil, or_false] at hi
      rcases hi with rfl | rfl | rfl | rfl <;> exact ⟨_, rfl⟩, lsz_mem hj, hz j m o nm _ hj m3 o0 o3 rfl rfl rfl rfl⟩
  by_cases h2 : k < 2
  · exact zif1 (t_lt rfl (decide_eq_true h2)) (fin 0 _ .un .un .un .un .un (by decide) d_0)
  refine zif2 (t_lt rfl (decide_eq_false h2)) ?_
  by_cases h5 : k < 5
  · exact zif1 (t_lt rfl (decide_eq_true h5)) (zset (d_1 hx) (fin 1 _ _ .un .un .un .un (by decide) (Is.var rfl)))
  refine zif2 (t_lt rfl (decide_eq_false h5)) ?_
  by_cases h5 : k = 5
  · exact zif1 (t_ik rfl (decide_eq_true h5)) (zset (d_full ok) (zset (t_2 o0) (fin 2 _ .un _ _ .un .un (by decide) (d_2 hx))))
  refine zif2 (t_ik rfl (decide_eq_false h5)) ?_
  by_cases h6 : k = 6
  · exact zif1 (t_ik rfl (decide_eq_true h6)) (zset t_3 (fin 3 _ .un .un _ .un .un (by decide) (d_3 hx)))
  refine zif2 (t_ik rfl (decide_eq_false h6)) ?_
  by_cases h7 : k = 7
  · exact zif1 (t_ik rfl (decide_eq_true h7)) (fin 4 _ .un .un .un .un .un (by decide) (d_4 hx))
  refine zif2 (t_ik rfl (decide_eq_false h7)) ?_
  exact zset t_5 (fin 5 _ .un .un _ .un .un (by decide) d_5)
theorem due_ok {n : Nat} {ts S : Tab} (ok : TbOk n ts) {j m : Nat} {o : Int} {nm : Str} {r : Rw} (h : due j (lk ts m) S o nm = some r) : RwOk (n + 1) r := by
  have hr : ∀ r, lk ts m = some r → RwOk n r := fun r e => ok.ok _ (lk_mem e)
  revert h hr
  generalize lk ts m = x
  intro h hr
  have key : ∀ {c : Rw → Bool} {g : Rw → Rw}, (∀ r, x = some r → RwOk (n + 1) (g r)) → (x.bind fun r => if c r = true then some (g r) else none) = some r → RwOk (n + 1) r := fun {c g} hg e => by
    cases x with
    | none => cases e
    | some r1 =>
      rw [Option.bind_some] at e
      split at e
      · cases e; exact hg _ rfl
      · cases e
  match j, h with
  | 0, h =>
    cases x with
    | none =>
      have h : (if (!eqS nm "") = true then some (newRw nm) else none) = some r := h
      split at h
      · cases h; exact new_ok nm (by omega)
      · cases h
    | some _ => cases h
  | 1, h => exact key (fun r e => dst_ok (hr r e) (.inl rfl)) h
  | 2, h => exact key (fun r e => dst_ok (hr r e) (.inr (.inl ⟨_, rfl⟩))) h
  | 3, h => exact key (fun r e => dst_ok (hr r e) (.inr (.inr ⟨_, rfl⟩))) h
  | 4, h => exact key (fun r e => dst_ok (hr r e) (.inl rfl)) h
  | j + 5, h => exact key (fun r e => (rnm_ok (hr r e) nm).more (by omega)) h
theorem bind_if {x : Option Rw} {c : Rw → Bool} {g : Rw → Rw} {r : Rw} (h : (x.bind fun r => if c r = true then some (g r) else none) = some r) : ∃ r1, x = some r1 ∧ c r1 = true ∧ r = g r1 := by
  cases x with
  | none => cases h
  | some r1 =>
    rw [Option.bind_some] at h
    split at h
    · rename_i z; cases h; exact ⟨r1, rfl, z, rfl⟩
    · cases h
theorem bind_no {x : Option Rw} {c : Rw → Bool} {g : Rw → Rw} (h : (x.bind fun r => if c r = true then some (g r) else none) = none) : ∀ r1, x = some r1 → c r1 = false := fun r1 e => by
  subst e
  rw [Option.bind_some] at h
  split at h
  · cases h
  · rename_i z; exact Bool.eq_false_iff.mpr z
theorem deed_ent (a : Ad) {n : Nat} {R : Reg} {ts : Tab} (h : RgOk n R ts) (hd : R.deeds.length ≤ 1000) (hn : n ≤ 1000) {j m : Nat} {o : Int} {nm : Str} (hj : j < 6) (hm : m < 3) (h0 : 0 ≤ o) :
    ∃ t ∈ tab17 a, t.l = lz j ∧ ∃ ds : List PyData, (∀ ρL : En, ρL[4]? = some (.sh (keyI (kZ m))) → ρL[5]? = some (.sh (.int o)) → ρL[6]? = some (.sh (.str nm)) → (t.js.map fun j => ρL[j]?) = ds.map (fun d => some (Sl.sh d))) ∧
      (∀ r, due j (lk ts m) (srt ts) o nm = some r → ∀ (A : RA) (Q : RA → Reg → Prop), (∀ A' : RA, A'.b = A.b → Q A' (noted R ts m r)) → t.cG A R (ds.map .sh) Q) ∧
      (due j (lk ts m) (srt ts) o nm = none → Rz t.cD (.rr R :: ds.map .sh) a.x_BadDeed) := by
  match j, hj with
  | 0, _ =>
    refine ⟨⟨lz 0, "take_in", [4, 6], cG_ti a, c_ti a⟩, List.mem_cons_self, rfl, [keyI (kZ m), .str nm], fun ρL h4 h5 h6 => ?_, fun r e A Q q => ?_, fun e => ?_⟩
    · show [ρL[4]?, ρL[6]?] = _; rw [h4, h6]; rfl
    · cases hx : lk ts m with
      | none =>
        rw [hx] at e
        have e : (if (!eqS nm "") = true then some (newRw nm) else none) = some r := e
        split at e
        · rename_i z; cases e; exact pG_ti a h hd hm hx (by simpa using z) q
        · cases e
      | some _ => rw [hx] at e; cases e
    · refine pD_ti a h hm ?_
      cases hx : lk ts m with
      | none =>
        rw [hx] at e
        have e : (if (!eqS nm "") = true then some (newRw nm) else none) = none := e
        split at e
        · cases e
        · rename_i z; exact .inr (by simpa using z)
      | some _ => exact .inl rfl
  | 1, _ =>
    refine ⟨⟨lz 1, "put_by", [4], cG_pb a, c_pb a⟩, List.mem_cons_of_mem _ List.mem_cons_self, rfl, [keyI (kZ m)], fun ρL h4 h5 h6 => ?_, fun r e A Q q => ?_, fun e => ?_⟩
    · show [ρL[4]?] = _; rw [h4]; rfl
    · obtain ⟨r1, hx, c, rfl⟩ := bind_if e
      exact pG_pb a h hd hn hx c q
    · exact pD_pb a h (bind_no e)
  | 2, _ =>
    refine ⟨⟨lz 2, "show", [4, 5], cG_sh a, c_sh a⟩, List.mem_cons_of_mem _ (List.mem_cons_of_mem _ List.mem_cons_self), rfl, [keyI (kZ m), .int o], fun ρL h4 h5 h6 => ?_, fun r e A Q q => ?_, fun e => ?_⟩
    · show [ρL[4]?, ρL[5]?] = _; rw [h4, h5]; rfl
    · obtain ⟨r1, hx, c, rfl⟩ := bind_if e
      simp only [Bool.and_eq_true, decide_eq_true_eq] at c
      exact pG_sh a h hd hn h0 c.2.1 c.2.2 hx c.1 q
    · refine pD_sh a h h0 ?_
      have hb := bind_no e
      by_cases z2 : o < 2
      · by_cases z3 : full o (srt ts) < rm o
        · refine .inr (.inr fun r hr => ?_)
          have := hb r hr
          rw [decide_eq_true z2, decide_eq_true z3] at this
          simpa using this
        · exact .inr (.inl (by unfold full at z3; omega))
      · exact .inl z2
  | 3, _ =>
    refine ⟨⟨lz 3, "lend", [4, 6], cG_le a, c_le a⟩, List.mem_cons_of_mem _ (List.mem_cons_of_mem _ (List.mem_cons_of_mem _ List.mem_cons_self)), rfl, [keyI (kZ m), .str nm], fun ρL h4 h5 h6 => ?_, fun r e A Q q => ?_, fun e => ?_⟩
    · show [ρL[4]?, ρL[6]?] = _; rw [h4, h6]; rfl
    · obtain ⟨r1, hx, c, rfl⟩ := bind_if e
      rw [Bool.and_eq_true] at c
      exact pG_le a h hd hn (by simpa using c.2) hx c.1 q
    · refine pD_le a h ?_
      have hb := bind_no e
      cases z : eqS nm "" with
      | true => exact .inl rfl
      | false =>
        refine .inr fun r hr => ?_
        have := hb r hr
        rw [z] at this
        simpa using this
  | 4, _ =>
    refine ⟨⟨lz 4, "let_go", [4], cG_lg a, c_lg a⟩, List.mem_cons_of_mem _ (List.mem_cons_of_mem _ (List.mem_cons_of_mem _ (List.mem_cons_of_mem _ List.mem_cons_self))), rfl, [keyI (kZ m)], fun ρL h4 h5 h6 => ?_, fun r e A Q q => ?_, fun e => ?_⟩
    · show [ρL[4]?] = _; rw [h4]; rfl
    · obtain ⟨r1, hx, c, rfl⟩ := bind_if e
      exact pG_lg a h hd hn hx c q
    · exact pD_lg a h (bind_no e)
  | 5, _ =>
    refine ⟨⟨lz 5, "rename", [4, 6], cG_rn a, c_rn a⟩, List.mem_cons_of_mem _ (List.mem_cons_of_mem _ (List.mem_cons_of_mem _ (List.mem_cons_of_mem _ (List.mem_cons_of_mem _ List.mem_cons_self)))), rfl, [keyI (kZ m), .str nm], fun ρL h4 h5 h6 => ?_, fun r e A Q q => ?_, fun e => ?_⟩
    · show [ρL[4]?, ρL[6]?] = _; rw [h4, h6]; rfl
    · obtain ⟨r1, hx, c, rfl⟩ := bind_if e
      simp only [Bool.and_eq_true, Bool.not_eq_true'] at c
      exact pG_rn a h hd hx c.1 c.2 q
    · refine pD_rn a h fun r hr => ?_
      have := bind_no e r hr
      cases z1 : eqS r.st "gone" with
      | true => exact .inl rfl
      | false =>
        cases z2 : inN nm r.nm with
        | true => exact .inr rfl
        | false => rw [z1, z2] at this; cases this
end M17
set_option Elab.async false
set_option linter.all false
set_option maxRecDepth 100000
set_option maxHeartbeats 1000000
namespace M17
open PySem PySem.Spec PyProof.Rows L2 PL S17
def wB0 (a : Ad) : PWB := (wT (w2 (fEq false) (wCall 2 (c__law_roll a) (wpDc 1 (wpSh (wC (.int 6)) wpNil))) (wC (.int 0))))
def wStep2 (a : Ad) : SW := (sSeq (sSet 7 (wCh (fC fun i j => decide (i ≤ j)) (fC fun i j => decide (i < j)) (wC (.int 0)) (w2 fAdd (wRd 4) (wRd 6)) (w1 fLen (wRd 3)))) (sSeq (sIf (wT (w2 (fC fun i j => decide (i < j)) (wRd 6) (wC (.int 0)))) (sOr (sSet 8 (wLend 2 (wToldB a.x_BadDeed "due" "done" (wMethR 1 2 (c_un a) wpNil)))) (sToldG 8 2 "done" (cG_un a))) (sOr (sSet 8 (wLend 2 (wToldB a.x_BadDeed "due" "done" (wMethR 1 2 (c_re a) wpNil)))) (sToldG 8 2 "done" (cG_re a)))) (sSet 4 (w2 fAdd (wRd 4) (w2 fMul (wRd 6) (w1 fInt (wRd 7)))))))
def wDeed (a : Ad) : SW := (sDeed 2 3 4 0 9 10 11 7 8 a.x_BadDeed "due" "done" (c__law_deed a) (tab17 a) (wpMk 2 (wpDc 1 (wpSh (w2 fIx (wRd 3) (wRd 4)) wpNil))))
def wPut (a : Ad) : SW := (sSeq (sDictI 12 (w2 fIx (wRd 3) (wRd 4))) (sSeq (sPut 12 (wVar 9) (wVar 10)) (sParN [3, 4] (wpSh (w2 fCat (wSl fSlL (wRd 3) wNo (wSo (w2 fAdd (wRd 4) (wC (.int 1))))) (wLst (wCons (wTupM (wLc (wItL (wSortT 12)) (gNameD 15) wYes (wTup (wCons (wVar 15) (wCons (wDIx 12 (wVar 15)) wNil))) [15])) wNil))) (wpSh (w2 fAdd (wRd 4) (wC (.int 1))) wpNil)))))
def wC1 (a : Ad) : SW := (sIf (wOr (wT (w2 (fEq true) (wRd 8) (w2 fIx (wLst (wCons (wC (.str "due")) (wCons (wC (.str "done")) wNil))) (w1 fInt (wRd 7))))) (wT (w2 (fEq true) (wUnp (wLend 2 (wMethR 1 2 (c_st a) wpNil))) (wUnp (wVar 13))))) (sRet (wC (.bool false))) sNil)
def wC2b (a : Ad) : SW := (sIf (wT (w2 (fEq true) (w1 fList (wLend 2 (wMethR 2 2 (c_si a) (wpSh (wVar 14) wpNil)))) (wLc (wItT (wUnp (wVar 13))) (gTupD 2 (gConsD (gNameD 15) (gConsD (gNameD 16) gNilD))) (wT (w2 (fEq false) (wSl fSlS (wRd 16) (wSo (wC (.int 1))) (wSo (wC (.int 3)))) (wTup (wCons (wC (.str "shown")) (wCons (wVar 14) wNil))))) (wVar 15) [15, 16]))) (sRet (wC (.bool false))) sNil)
def wC3 (a : Ad) : SW := (sIf (wT (w2 (fEq true) (w1 fList (wLend 2 (wMethR 2 2 (c_lt a) (wpSh (wC (.str "a")) wpNil)))) (wLc (wItT (wUnp (wVar 13))) (gTupD 2 (gConsD (gNameD 15) (gConsD (gNameD 16) gNilD))) (wT (w2 (fEq false) (wSl fSlS (wRd 16) (wSo (wC (.int 1))) (wSo (wC (.int 3)))) (wTup (wCons (wC (.str "lent")) (wCons (wC (.str "a")) wNil))))) (wVar 15) [15, 16]))) (sRet (wC (.bool false))) sNil)
def wC4b (a : Ad) : SW := (sSeq (sOwn 17 (wLc (wItT (w2 fIx (wRd 16) (wC (.int 3)))) (gTupD 2 (gConsD (gNameD 18) (gConsD (gNameD 19) gNilD))) wYes (wVar 18) [18, 19])) (sFrz 17 (sIf (wT (w2 (fEq true) (wLend 2 (wMethR 2 2 (c_of a) (wpSh (wVar 15) wpNil))) (wTup (wCons (wCntD (wVar 17) (wC (.str "shown"))) (wCons (wCntD (wVar 17) (wC (.str "lent"))) wNil))))) (sRet (wC (.bool false))) sNil)))
def wFin (a : Ad) : SW := (sIf (wT (w2 (fEq true) (wLend 2 (wToldB a.x_BadDeed "due" "done" (wMethR 3 2 (c_ti a) (wpSh (wTup (wCons (wC (.int 1)) (wCons (wC (.int 2)) (wCons (wC (.int 3)) wNil)))) (wpSh (wC (.str "a")) wpNil))))) (wC (.str "due")))) (sRet (wC (.bool false))) sNil)
def wStep (a : Ad) : SW := sSeq (sSet 6 (w2 fIx (wLst (wCons (w2 (fI CT fun i j => i - j) (wC (.int 0)) (wC (.int 1))) (wCons (wC (.int 1)) wNil))) (wCall 2 (c__law_roll a) (wpDc 1 (wpSh (wC (.int 2)) wpNil))))) (wStep2 a)
def wBr (a : Ad) : SW := sIf (wB0 a) (wStep a) (sSeq (wDeed a) (sIf (wT (wVar 7)) (wPut a) sNil))
def wC2 (a : Ad) : SW := sFor (wItL (wLst (wCons (wC (.int 0)) (wCons (wC (.int 1)) wNil)))) (gNameD 14) (wC2b a)
def wC4 (a : Ad) : SW := sFor (wItT (wUnp (wVar 13))) (gTupD 2 (gConsD (gNameD 15) (gConsD (gNameD 16) gNilD))) (wC4b a)
def wTurn (a : Ad) : SW := sSeq (wBr a) (sSeq (sSet 13 (w2 fIx (wRd 3) (wRd 4))) (sSeq (wC1 a) (sSeq (wC2 a) (sSeq (wC3 a) (wC4 a)))))
theorem law_eq (a : Ad) : u_law a = sSeq (sInit 2 3 4 [2, 1]) (sSeq (sFor (wRng1 (wCons (wCall 2 (c__law_roll a) (wpDc 1 (wpSh (wC (.int 19)) wpNil))) wNil)) (gNameD 5) (wTurn a)) (wFin a)) := rfl
end M17
set_option Elab.async false
set_option linter.all false
set_option maxRecDepth 100000
set_option maxHeartbeats 1000000
namespace M17
open PySem PySem.Spec PyProof.Rows L2 PL S17
def uo : Option PyData → Sl
  | none => .un
  | some d => .sh d
def ot : Option (List (List Key × PyData)) → Sl
  | none => .un
  | some kvs => .ot kvs
@[simp] theorem uo_by (x : Option PyData) : (uo x).by = true := by cases x <;> rfl
@[simp] theorem uo_own (x : Option PyData) : (uo x).owned = false := by cases x <;> rfl
@[simp] theorem ot_by (x : Option (List (List Key × PyData))) : (ot x).by = true := by cases x <;> rfl
def tabM (S : Tab) : PyData := ptM (S.map itE)
def rowsD (Ss : List Tab) : PyData := .list (Ss.map tabM)
abbrev eL (A : RA) (R : Reg) (Ss : List Tab) (p : Nat) (x5 x6 x7 x8 x9 x10 x11 : Option PyData) (x12 : Option (List (List Key × PyData))) (x13 x14 x15 x16 x17 x18 x19 : Option PyData) : En :=
  [.un, .dice, .rg A R, .sh (rowsD Ss), .sh (.int (p : Nat)), uo x5, uo x6, uo x7, uo x8, uo x9, uo x10, uo x11, ot x12, uo x13, uo x14, uo x15, uo x16, uo x17, uo x18, uo x19]
section
variable {A : RA} {R : Reg} {Ss : List Tab} {s3 s4 s5 s6 s7 s8 s9 s10 s11 s12 s13 s14 s15 s16 s17 s18 s19 : Sl}
theorem by20 (h3 : s3.by = true := by first | rfl | exact uo_by _ | exact ot_by _) (h4 : s4.by = true := by first | rfl | exact uo_by _ | exact ot_by _) (h5 : s5.by = true := by first | rfl | exact uo_by _ | exact ot_by _) (h6 : s6.by = true := by first | rfl | exact uo_by _ | exact ot_by _) (h7 : s7.by = true := by first | rfl | exact uo_by _ | exact ot_by _)
    (h8 : s8.by = true := by first | rfl | exact uo_by _ | exact ot_by _) (h9 : s9.by = true := by first | rfl | exact uo_by _ | exact ot_by _) (h10 : s10.by = true := by first | rfl | exact uo_by _ | exact ot_by _) (h11 : s11.by = true := by first | rfl | exact uo_by _ | exact ot_by _) (h12 : s12.by = true := by first | rfl | exact uo_by _ | exact ot_by _)
    (h13 : s13.by = true := by first | rfl | exact uo_by _ | exact ot_by _) (h14 : s14.by = true := by first | rfl | exact uo_by _ | exact ot_by _) (h15 : s15.by = true := by first | rfl | exact uo_by _ | exact ot_by _) (h16 : s16.by = true := by first | rfl | exact uo_by _ | exact ot_by _) (h17 : s17.by = true := by first | rfl | exact uo_by _ | exact ot_by _)
    (h18 : s18.by = true := by first | rfl | exact uo_by _ | exact ot_by _) (h19 : s19.by = true := by first | rfl | exact uo_by _ | exact ot_by _) : ByE 2 [.un, .dice, .rg A R, s3, s4, s5, s6, s7, s8, s9, s10, s11, s12, s13, s14, s15, s16, s17, s18, s19] := by_of (by
  simp [byB, h3, h4, h5, h6, h7, h8, h9, h10, h11, h12, h13, h14, h15, h16, h17, h18, h19]
  exact ⟨rfl, rfl⟩)
end
theorem go_set {ρ : En} {i : Nat} {w : PW} {v : SW} {D : PEn} (h : w ρ (fun x => v (ρ.set i (.sh x)) D) D.ex) : sSeq (sSet i w) v ρ D := h
theorem go_w2 {ρ : En} {f : PyData → PyData → (PyData → Prop) → Prop} {u v : PW} {Q : PyData → Prop} {E : Exn → Prop} (h : u ρ (fun x => v ρ (fun y => f x y Q) E) E) : w2 f u v ρ Q E := h
theorem cmul {x y : Int} (h : -1000 ≤ x ∧ x ≤ 1000) : CMul x y := .inl ⟨by omega, by omega⟩
section
variable {ρ : En} {u v : PW} {m n : Int}
theorem Is.subI (hu : Is u ρ (.int m)) (hv : Is v ρ (.int n)) : Is (w2 (fI CT fun i j => i - j) u v) ρ (.int (m - n)) := fun Q E q => hu _ _ (hv _ _ ⟨trivial, q⟩)
theorem Is.mulI (hu : Is u ρ (.int m)) (hv : Is v ρ (.int n)) (h : -1000 ≤ m ∧ m ≤ 1000) : Is (w2 fMul u v) ρ (.int (m * n)) := fun Q E q => hu _ _ (hv _ _ ⟨cmul h, q⟩)
end
theorem Is.plus {ρ : En} {q st : Int} {b : Bool} (h4 : ρ[4]? = some (.sh (.int q))) (h6 : ρ[6]? = some (.sh (.int st))) (h7 : ρ[7]? = some (.sh (.bool b))) (hs : st = 0 - 1 ∨ st = 1) : Is (w2 fAdd (wRd 4) (w2 fMul (wRd 6) (w1 fInt (wRd 7)))) ρ (.int (q + st * (if b = true then 1 else 0))) := Is.addI (Is.rd h4) (Is.mulI (Is.rd h6) (Is.intB (Is.rd h7)) (by omega))
def tellS (b : Bool) : Str := if b = true then "done" else "due"
section
variable (a : Ad) {n : Nat} {A : RA} {R : Reg} {Ss : List Tab} {p : Nat} {ts : Tab} {x5 x6 x7 x8 x9 x10 x11 x13 x14 x15 x16 x17 x18 x19 : Option PyData} {x12 : Option (List (List Key × PyData))} {D : PEn}
theorem p_step2 (H : Hist n R Ss p ts) (hl : Ss.length ≤ 1000) {st : Int} (hst : st = 0 - 1 ∨ st = 1)
    (h : ∀ (A' : RA) (R' : Reg) (p' : Nat) (ts' : Tab) (fine : Bool), Hist n R' Ss p' ts' → D.nx (eL A' R' Ss p' x5 (some (.int st)) (some (.bool fine)) (some (.str (tellS fine))) x9 x10 x11 x12 x13 x14 x15 x16 x17 x18 x19)) :
    wStep2 a (eL A R Ss p x5 (some (.int st)) x7 x8 x9 x10 x11 x12 x13 x14 x15 x16 x17 x18 x19) D := by
  have hp := H.lt
  have hlen : (Ss.map tabM).length = Ss.length := List.length_map _
  unfold wStep2
  refine sqset (Is.ch (l := 0) (m := (p : Nat) + st) (n := Ss.length) Is.cst (Is.addI (Is.rd rfl) (Is.rd rfl)) ((Is.lenL (xs := Ss.map tabM) (Is.rd rfl)).conv (by rw [hlen]))) ?_
  rcases hst with rfl | rfl
  · refine sqif1 (t_lt rfl (by decide)) ?_
    cases p with
    | zero =>
      have e : (decide ((0 : Int) ≤ ((0 : Nat) : Int) + (0 - 1)) && decide (((0 : Nat) : Int) + (0 - 1) < (Ss.length : Int))) = false := rfl
      rw [e]
      refine .inl (sset (Is.lend rfl by20 (Is.toldNo (Rz.meth rfl IsP.nil rfl (pD_un a (by rw [H.de]; rfl))))) ?_)
      dsimp only
      refine sset (Is.plus (q := ((0 : Nat) : Int)) (st := 0 - 1) (b := false) rfl rfl rfl (.inl rfl)) ?_
      exact h A R 0 ts false H
    | succ p =>
      have e : (decide ((0 : Int) ≤ ((p + 1 : Nat) : Int) + (0 - 1)) && decide (((p + 1 : Nat) : Int) + (0 - 1) < (Ss.length : Int))) = true := by
        rw [decide_eq_true (by omega), decide_eq_true (by omega)]; rfl
      rw [e]
      obtain ⟨e1, H2⟩ := H.undo
      refine .inr ⟨A, R, rfl, by20, pG_un a (n := n) H.deOk e1 (by rw [H.unLen]; omega) H2.rg.ok fun A' eA => ⟨eA, ?_⟩⟩
      dsimp only
      refine sset ((Is.plus (q := ((p + 1 : Nat) : Int)) (st := 0 - 1) (b := true) rfl rfl rfl (.inl rfl)).conv (y := .int (p : Nat)) ?_) ?_
      · congr 1
        show ((p + 1 : Nat) : Int) + (0 - 1) * 1 = _
        omega
      exact h A' _ p _ true H2
  · refine sqif2 (t_lt rfl (by decide)) ?_
    by_cases hq : p + 1 < Ss.length
    · have e : (decide ((0 : Int) ≤ (p : Int) + 1) && decide ((p : Int) + 1 < (Ss.length : Int))) = true := by
        rw [decide_eq_true (by omega), decide_eq_true (by omega)]; rfl
      rw [e]
      obtain ⟨e1, H2⟩ := H.redo hq
      refine .inr ⟨A, R, rfl, by20, pG_re a (n := n) H.unOk e1 (by rw [H.deLen]; omega) H2.rg.ok fun A' eA => ⟨eA, ?_⟩⟩
      dsimp only
      refine sset ((Is.plus (q := (p : Int)) (st := 1) (b := true) rfl rfl rfl (.inr rfl)).conv (y := .int ((p + 1 : Nat) : Int)) ?_) ?_
      · congr 1
      exact h A' _ (p + 1) _ true H2
    · have e : (decide ((0 : Int) ≤ (p : Int) + 1) && decide ((p : Int) + 1 < (Ss.length : Int))) = false := by
        rw [decide_eq_false (by omega : ¬ ((p : Int) + 1 < (Ss.length : Int))), Bool.and_false]
      rw [e]
      refine .inl (sset (Is.lend rfl by20 (Is.toldNo (Rz.meth rfl IsP.nil rfl (pD_re a (by rw [H.un, show Ss.length - 1 - p = 0 by omega]; rfl))))) ?_)
      dsimp only
      refine sset ((Is.plus (q := (p : Int)) (st := 1) (b := false) rfl rfl rfl (.inr rfl)).conv (y := .int (p : Nat)) ?_) ?_
      · congr 1
      exact h A R p ts false H
theorem p_step (H : Hist n R Ss p ts) (hl : Ss.length ≤ 1000)
    (h : ∀ (A' : RA) (R' : Reg) (p' : Nat) (ts' : Tab) (fine : Bool) (y6 : PyData), Hist n R' Ss p' ts' → D.nx (eL A' R' Ss p' x5 (some y6) (some (.bool fine)) (some (.str (tellS fine))) x9 x10 x11 x12 x13 x14 x15 x16 x17 x18 x19)) :
    wStep a (eL A R Ss p x5 x6 x7 x8 x9 x10 x11 x12 x13 x14 x15 x16 x17 x18 x19) D := by
  unfold wStep
  refine go_set (go_w2 ((Is.lst (IsS.cons (Is.subI Is.cst Is.cst) (IsS.cons Is.cst IsS.nil))) _ _ ?_))
  refine Is.roll a rfl (by decide) (by decide) fun r r0 r2 => ?_
  have c : r = 0 ∨ r = 1 := by omega
  rcases c with rfl | rfl
  · exact p_step2 a H hl (.inl rfl) fun A' R' p' ts' fine H' => h A' R' p' ts' fine _ H'
  · exact p_step2 a H hl (.inr rfl) fun A' R' p' ts' fine H' => h A' R' p' ts' fine _ H'
end
end M17
set_option Elab.async false
set_option linter.all false
set_option maxRecDepth 100000
set_option maxHeartbeats 1000000
namespace M17
open PySem PySem.Spec PyProof.Rows L2 PL S17
theorem go_dictI {ρ : En} {i : Nat} {w : PW} {v : SW} {D : PEn} (h : w ρ (fun d => ∃ kvs, RowsI d kvs ∧ v (ρ.set i (.ot (kvs.map fun p => (ik p.1, p.2)))) D) D.ex) : sSeq (sDictI i w) v ρ D := h
theorem alike (ts : Tab) : PySem.W.AllAlike ((ts.map enc).map fun p => keyI p.1) ∧ PySem.W.Sortable ((ts.map enc).map fun p => keyI p.1) := by
  rw [List.map_map]
  exact ⟨PySem.W.AllAlike.of (enc := fun p : Nat × Rw => keyI (kZ p.1)) fun _ _ => rfl, PySem.W.Sortable.tuples (enc := fun p : Nat × Rw => keyI (kZ p.1)) fun b => ⟨_, _, rfl⟩⟩
def tkv (ts : Tab) : List (List Key × PyData) := ts.map fun p => (ik (kZ p.1), rD p.2)
theorem tkv_enc (ts : Tab) : (ts.map enc).map (fun p => (ik p.1, p.2)) = tkv ts := by rw [List.map_map]; rfl
section
variable {ρ : En} {i : Nat} {w : PW} {xs : List PyData}
theorem Is.sortT {n : Nat} {ts : Tab} (h : ρ[i]? = some (.ot (tkv ts))) (ok : TbOk n ts) : Is (wSortT i) ρ (.list ((srt ts).map kD)) := fun Q E q => by
  refine ⟨ts.map enc, by rw [h, tkv_enc], alike ts, ?_⟩
  have e : ((ts.map enc).map (·.1)) = ts.map fun p => kZ p.1 := by rw [List.map_map]; rfl
  rw [e, sort_keys ok, List.map_map]
  exact q
theorem Is.tupM (h : Is w ρ (.list xs)) (hn : NK xs) : Is (wTupM w) ρ (ptM xs) := fun Q E q => h _ _ ⟨hn, q⟩
theorem Is.dIx {ts : Tab} {m : Nat} {r : Rw} (h : ρ[i]? = some (.ot (tkv ts))) (hw : Is w ρ (keyI (kZ m))) (e : lk ts m = some r) : Is (wDIx i w) ρ (rD r) := fun Q E q => by
  unfold wDIx wDs
  rw [h]
  refine hw _ _ ?_
  show PL.dIx ((keyTn (keyI (kZ m))).map fun key => lookK (tkv ts) key) Q
  rw [kT]
  show PL.dIx (some (lookK (tkv ts) (ik (kZ m)))) Q
  unfold tkv
  rw [lk_map (fun k => ik (kZ k)) (fun _ _ => ikZ_inj), e]
  exact q
end
theorem rows_at {n : Nat} {R : Reg} {Ss : List Tab} {p : Nat} {ts : Tab} (H : Hist n R Ss p ts) : atI (Ss.map tabM) (p : Nat) = some (tabM (srt ts)) := by
  have := H.lt
  rw [U.at_nat, List.getElem?_map, List.getElem?_eq_getElem this]
  have e := H.now
  rw [List.getD_eq_getElem?_getD, List.getElem?_eq_getElem this] at e
  show some (tabM Ss[p]) = _
  rw [← e]; rfl
section
variable (a : Ad) {n : Nat} {A : RA} {R R' : Reg} {Ss : List Tab} {p : Nat} {ts : Tab} {x5 x6 x7 x8 x9 x10 x11 x13 x14 x15 x16 x17 x18 x19 : Option PyData} {x12 : Option (List (List Key × PyData))} {D : PEn}
theorem p_put (H : Hist n R Ss p ts) (hl : Ss.length ≤ 1000) {m : Nat} {r : Rw} (hm : m < 3) (hr : RwOk (n + 1) r)
    (h : D.nx (eL A R' (Ss.take (p + 1) ++ [srt (put ts m r)]) (p + 1) x5 x6 x7 x8 (some (keyI (kZ m))) (some (rD r)) x11 (some (tkv (put (srt ts) m r))) x13 x14 x15 x16 x17 x18 x19)) :
    wPut a (eL A R' Ss p x5 x6 x7 x8 (some (keyI (kZ m))) (some (rD r)) x11 x12 x13 x14 x15 x16 x17 x18 x19) D := by
  have hS := H.rg.ok.srt
  have hput : TbOk (n + 1) (put (srt ts) m r) := (hS.more (by omega)).put hm hr
  have hp := H.lt
  unfold wPut
  refine go_dictI ((Is.ixL (xs := Ss.map tabM) (n := (p : Nat)) (Is.rd rfl) (Is.rd rfl) (rows_at H)) _ _ ⟨(srt ts).map enc, rows_tab hS, ?_⟩)
  rw [tkv_enc]
  refine ⟨ik (kZ m), kT m, U.lt_size (by unfold tkv; rw [List.length_map]; have := hS.len; omega), ?_⟩
  have ep : putD (tkv (srt ts)) (ik (kZ m)) (rD r) = tkv (put (srt ts) m r) := put_map (fun k => ik (kZ k)) (fun _ _ => ikZ_inj) (srt ts) m r
  rw [ep]
  have one : Is (wTupM (wLc (wItL (wSortT 12)) (gNameD 15) wYes (wTup (wCons (wVar 15) (wCons (wDIx 12 (wVar 15)) wNil))) [15])) (eL A R' Ss p x5 x6 x7 x8 (some (keyI (kZ m))) (some (rD r)) x11 (some (tkv (put (srt ts) m r))) x13 x14 x15 x16 x17 x18 x19) (tabM (srt (put ts m r))) := by
    refine Is.tupM (xs := (srt (put ts m r)).map itE) ?_ (NK_tab _)
    intro Q E q
    refine ⟨U.noown (by simp), ?_⟩
    refine (Is.sortT (ts := put (srt ts) m r) rfl hput) _ _ ?_
    rw [srt_put]
    refine U.lc_map (enc := kD) (enco := itE) (srt (put ts m r)) id (fun q hq Y hY => ?_) (by have := (hput.srt).len; rw [srt_put] at this; omega) (by rw [List.map_id]; exact q)
    have hq2 : lk (put (srt ts) m r) q.1 = some q.2 := by
      rw [← srt_put] at hq
      exact (mem_srt.mp hq).2
    exact (Is.tup (IsS.cons (Is.var rfl) (IsS.cons (Is.dIx (ts := put (srt ts) m r) (m := q.1) rfl (Is.var rfl) hq2) IsS.nil))) _ _ hY
  have cat : Is (w2 fCat (wSl fSlL (wRd 3) wNo (wSo (w2 fAdd (wRd 4) (wC (.int 1))))) (wLst (wCons (wTupM (wLc (wItL (wSortT 12)) (gNameD 15) wYes (wTup (wCons (wVar 15) (wCons (wDIx 12 (wVar 15)) wNil))) [15])) wNil))) (eL A R' Ss p x5 x6 x7 x8 (some (keyI (kZ m))) (some (rD r)) x11 (some (tkv (put (srt ts) m r))) x13 x14 x15 x16 x17 x18 x19) (rowsD (Ss.take (p + 1) ++ [srt (put ts m r)])) := by
    have ec : PL.cutD (Ss.map tabM) none (some ((p : Int) + 1)) = (Ss.take (p + 1)).map tabM := U.cut_hi tabM Ss (k := p + 1) (by omega)
    refine (Is.cat (xs := PL.cutD (Ss.map tabM) none (some ((p : Int) + 1))) (Is.slL (l := none) (h := some ((p : Int) + 1)) (Is.rd rfl) isNo (isSo (Is.addI (Is.rd rfl) Is.cst))) (Is.lst (IsS.cons one IsS.nil)) ?_).conv ?_
    · rw [ec, List.length_map, List.length_take]
      simp only [List.length_cons, List.length_nil]
      omega
    · rw [ec]
      unfold rowsD
      rw [List.map_append]
      rfl
  refine cat _ _ ?_
  refine (Is.addI (m := (p : Nat)) (n := 1) (Is.rd rfl) Is.cst) _ _ ⟨rfl, ?_⟩
  exact h
theorem p_dd (H : Hist n R Ss p ts) (hl : Ss.length ≤ 1000) (hn : n ≤ 1000)
    (h : ∀ (A' : RA) (R' : Reg) (Ss' : List Tab) (p' : Nat) (ts' : Tab) (fine : Bool) (y9 y10 : PyData) (y12 : Option (List (List Key × PyData))), Hist (n + 1) R' Ss' p' ts' → Ss'.length ≤ Ss.length + 1 → D.nx (eL A' R' Ss' p' x5 x6 (some (.bool fine)) (some (.str (tellS fine))) (some y9) (some y10) none y12 x13 x14 x15 x16 x17 x18 x19)) :
    sSeq (wDeed a) (sIf (wT (wVar 7)) (wPut a) sNil) (eL A R Ss p x5 x6 x7 x8 x9 x10 x11 x12 x13 x14 x15 x16 x17 x18 x19) D := by
  have hp := H.lt
  have hdl : R.deeds.length ≤ 1000 := by rw [H.deLen]; omega
  refine ⟨A, R, rfl, by20, ⟨by show 10 < 20; decide, by show 11 < 20; decide⟩, A, R, rfl, rfl, ?_⟩
  refine (Is.ixL (xs := Ss.map tabM) (n := (p : Nat)) (Is.rd rfl) (Is.rd rfl) (rows_at H)) _ _ ⟨rfl, ?_⟩
  refine p_deed a H.rg.ok.srt hn _ fun j m o nm ρL hj hm o0 o3 g0 g4 g5 g6 => ?_
  obtain ⟨t, ht, hl', ds, hds, hG, hD⟩ := deed_ent a (nm := nm) H.rg hdl hn hj hm o0
  refine ⟨t, _, ds, ht, hl', g0, g4, hds ρL g4 g5 g6, ?_⟩
  rw [lk_srt hm]
  cases e : due j (lk ts m) (srt ts) o nm with
  | none =>
    refine .inr (hD e _ _ ⟨rfl, ?_⟩)
    dsimp only
    refine sif2 (IsB.T (Is.var rfl)) ?_
    exact h A R Ss p ts false _ _ x12 (H.more (by omega)) (by omega)
  | some r =>
    have hr := due_ok H.rg.ok e
    refine .inl (hG r e A _ fun A' eA => ⟨eA, ?_⟩)
    dsimp only
    refine sif1 (IsB.T (Is.var rfl)) ?_
    show wPut a (eL A' (noted R ts m r) Ss p x5 x6 (some (.bool true)) (some (.str (tellS true))) (some (keyI (kZ m))) (some (rD r)) none x12 x13 x14 x15 x16 x17 x18 x19) D
    refine p_put a H hl hm hr ?_
    refine h A' _ _ _ _ true _ _ _ (H.note hm hr) ?_
    rw [List.length_append, List.length_take]
    simp only [List.length_cons, List.length_nil]
    omega
theorem p_br (H : Hist n R Ss p ts) (hl : Ss.length ≤ 1000) (hn : n ≤ 1000)
    (h : ∀ (A' : RA) (R' : Reg) (Ss' : List Tab) (p' : Nat) (ts' : Tab) (fine : Bool) (y6 y9 y10 y11 : Option PyData) (y12 : Option (List (List Key × PyData))), Hist (n + 1) R' Ss' p' ts' → Ss'.length ≤ Ss.length + 1 → D.nx (eL A' R' Ss' p' x5 y6 (some (.bool fine)) (some (.str (tellS fine))) y9 y10 y11 y12 x13 x14 x15 x16 x17 x18 x19)) :
    wBr a (eL A R Ss p x5 x6 x7 x8 x9 x10 x11 x12 x13 x14 x15 x16 x17 x18 x19) D := by
  unfold wBr
  have step := p_step a (A := A) (x5 := x5) (x6 := x6) (x7 := x7) (x8 := x8) (x9 := x9) (x10 := x10) (x11 := x11) (x12 := x12) (x13 := x13) (x14 := x14) (x15 := x15) (x16 := x16) (x17 := x17) (x18 := x18) (x19 := x19) (D := D) H hl fun A' R' p' ts' fine y6 H' => h A' R' Ss p' ts' fine (some y6) x9 x10 x11 x12 (H'.more (by omega)) (by omega)
  have dd := p_dd a (A := A) (x5 := x5) (x6 := x6) (x7 := x7) (x8 := x8) (x9 := x9) (x10 := x10) (x11 := x11) (x12 := x12) (x13 := x13) (x14 := x14) (x15 := x15) (x16 := x16) (x17 := x17) (x18 := x18) (x19 := x19) (D := D) H hl hn fun A' R' Ss' p' ts' fine y9 y10 y12 H' hl' => h A' R' Ss' p' ts' fine x6 (some y9) (some y10) none y12 H' hl'
  unfold wB0
  refine Is.roll a rfl (by decide) (by decide) fun r r0 r6 => ?_
  refine ⟨⟨U.pl_int _, U.pl_int _⟩, ?_⟩
  refine U.brEq r (0 : Int) (fun _ => step) fun _ => dd
end
end M17
set_option Elab.async false
set_option linter.all false
set_option maxRecDepth 100000
set_option maxHeartbeats 1000000
namespace M17
open PySem PySem.Spec PyProof.Rows L2 PL S17
theorem key_list (S : Tab) : Pl (.list (S.map kD)) := by
  have := lst_plain (xs := S.map kD) 1 fun x hx => by
    obtain ⟨p, _, rfl⟩ := List.mem_map.mp hx
    exact keyI_plain _
  exact ⟨this.1, by have := this.2; omega⟩
theorem shL_pl (s : Str) (x : PyData) (S : Tab) : Pl (.list (shL s x S)) := key_list _
theorem two_int (m n : Int) : Pl (.tuple [.int m, .int n]) := by
  have := tup_plain (xs := [PyData.int m, .int n]) 0 fun x hx => by
    simp only [List.mem_cons, List.not_mem_nil, or_false] at hx
    rcases hx with rfl | rfl <;> exact ⟨rfl, Nat.zero_le _⟩
  exact ⟨this.1, by have := this.2; omega⟩
section
variable {ρ : En} {u v w : PW} {x : PyData} {i : Nat}
/-- x != x -/
theorem IsB.same (hu : Is u ρ x) (hv : Is v ρ x) (px : Pl x) : IsB (wT (w2 (fEq true) u v)) ρ false := IsB.eq (by rw [if_pos rfl, eqv_same px]; rfl) (IsB.T (Is.eq (n := true) hu hv px px))
end
section
variable (a : Ad) {n : Nat} {A : RA} {R : Reg} {Ss : List Tab} {p : Nat} {ts : Tab} {x5 x6 x7 x8 x9 x10 x11 x13 x14 x15 x16 x17 x18 x19 : Option PyData} {x12 : Option (List (List Key × PyData))} {D : PEn}
/-- the comprehension over now -/
theorem p_rows {w : PW} {s : Str} {y : PyData} (hS : TbOk n (srt ts)) (hy : Sc y)
    (hw : ∀ q ∈ srt ts, Is w (eL A R Ss p x5 x6 x7 x8 x9 x10 x11 x12 (some (tabM (srt ts))) x14 (some (kD q)) (some (rD q.2)) x17 x18 x19) y) :
    Is (wLc (wItT (wUnp (wVar 13))) (gTupD 2 (gConsD (gNameD 15) (gConsD (gNameD 16) gNilD))) (wT (w2 (fEq false) (wSl fSlS (wRd 16) (wSo (wC (.int 1))) (wSo (wC (.int 3)))) (wTup (wCons (wC (.str s)) (wCons w wNil))))) (wVar 15) [15, 16])
      (eL A R Ss p x5 x6 x7 x8 x9 x10 x11 x12 (some (tabM (srt ts))) x14 x15 x16 x17 x18 x19) (.list (shL s y (srt ts))) := by
  refine Is.lc2 (i := 15) (j := 16) (A := kD) (B := fun p => rD p.2) (O := kD) (f := shW s y) (l := srt ts) (U.noown (by simp)) (rows_of (srt ts) (Is.unp (Is.var rfl))) (by have := hS.len; omega) (fun q hq => ?_) (fun q hq _ => Is.var rfl)
  exact t_row (hS.ok q hq) rfl (hw q hq) hy
theorem p_c1 (H : Hist n R Ss p ts) {fine : Bool}
    (h : D.nx (eL A R Ss p x5 x6 (some (.bool fine)) (some (.str (tellS fine))) x9 x10 x11 x12 (some (tabM (srt ts))) x14 x15 x16 x17 x18 x19)) :
    wC1 a (eL A R Ss p x5 x6 (some (.bool fine)) (some (.str (tellS fine))) x9 x10 x11 x12 (some (tabM (srt ts))) x14 x15 x16 x17 x18 x19) D := by
  have hS := H.rg.ok.srt
  unfold wC1
  refine sif2 (IsB.or2 ?_ (IsB.same (x := .tuple ((srt ts).map itE)) (Is.unp (Is.lend rfl by20 (Is.meth rfl IsP.nil rfl (p_st a H.rg)))) (Is.unp (Is.var rfl)) (Pl_tab hS))) h
  refine IsB.same (x := .str (tellS fine)) (Is.rd rfl) ?_ (pls _)
  refine Is.ixL (xs := [.str "due", .str "done"]) (n := if fine then 1 else 0) (Is.lst (IsS.cons Is.cst (IsS.cons Is.cst IsS.nil))) (Is.intB (Is.rd rfl)) ?_
  cases fine <;> rfl
theorem p_c2 (H : Hist n R Ss p ts)
    (h : ∀ y14 : Option PyData, D.nx (eL A R Ss p x5 x6 x7 x8 x9 x10 x11 x12 (some (tabM (srt ts))) y14 x15 x16 x17 x18 x19)) :
    wC2 a (eL A R Ss p x5 x6 x7 x8 x9 x10 x11 x12 (some (tabM (srt ts))) x14 x15 x16 x17 x18 x19) D := by
  have hS := H.rg.ok.srt
  unfold wC2
  refine (IsS.itL (Is.lst (xs := [.int 0, .int 1]) (IsS.cons Is.cst (IsS.cons Is.cst IsS.nil)))) _ _ ?_
  refine U.for_list (enc := PyData.int) [0, 1] (fun _ ρ => ∃ y14 : Option PyData, ρ = eL A R Ss p x5 x6 x7 x8 x9 x10 x11 x12 (some (tabM (srt ts))) y14 x15 x16 x17 x18 x19) (fun i o ρ N hN hx hi hI => ?_) (fun ρ hI => ?_) _ ⟨x14, rfl⟩
  · obtain ⟨y14, rfl⟩ := hI
    have so : Sc (.int o) := .inr (.inl ⟨o, rfl⟩)
    show wC2b a (eL A R Ss p x5 x6 x7 x8 x9 x10 x11 x12 (some (tabM (srt ts))) (some (.int o)) x15 x16 x17 x18 x19) _
    unfold wC2b
    refine sif2 (IsB.same (Is.listT (Is.lend rfl by20 (Is.meth rfl (IsP.sh (Is.var rfl) IsP.nil) rfl (p_si a H.rg so)))) (p_rows hS so fun q hq => Is.var rfl) (shL_pl _ _ _)) ?_
    exact hN _ ⟨_, rfl⟩
  · obtain ⟨y14, rfl⟩ := hI
    exact h y14
theorem p_c3 (H : Hist n R Ss p ts)
    (h : D.nx (eL A R Ss p x5 x6 x7 x8 x9 x10 x11 x12 (some (tabM (srt ts))) x14 x15 x16 x17 x18 x19)) :
    wC3 a (eL A R Ss p x5 x6 x7 x8 x9 x10 x11 x12 (some (tabM (srt ts))) x14 x15 x16 x17 x18 x19) D := by
  have hS := H.rg.ok.srt
  have so : Sc (.str "a") := .inr (.inr ⟨_, rfl⟩)
  unfold wC3
  exact sif2 (IsB.same (Is.listT (Is.lend rfl by20 (Is.meth rfl (IsP.sh Is.cst IsP.nil) rfl (p_lt a H.rg so)))) (p_rows hS so fun q hq => Is.cst) (shL_pl _ _ _)) h
theorem p_c4 (H : Hist n R Ss p ts) (hn : n ≤ 1000)
    (h : ∀ y15 y16 y17 : Option PyData, D.nx (eL A R Ss p x5 x6 x7 x8 x9 x10 x11 x12 (some (tabM (srt ts))) x14 y15 y16 y17 x18 x19)) :
    wC4 a (eL A R Ss p x5 x6 x7 x8 x9 x10 x11 x12 (some (tabM (srt ts))) x14 x15 x16 x17 x18 x19) D := by
  have hS := H.rg.ok.srt
  unfold wC4
  refine (IsS.itT (Is.unp (xs := (srt ts).map itE) (Is.var rfl))) _ _ ?_
  refine U.for_list (enc := itE) (srt ts) (fun _ ρ => ∃ y15 y16 y17 : Option PyData, ρ = eL A R Ss p x5 x6 x7 x8 x9 x10 x11 x12 (some (tabM (srt ts))) x14 y15 y16 y17 x18 x19) (fun i q ρ N hN hx hi hI => ?_) (fun ρ hI => ?_) _ ⟨x15, x16, x17, rfl⟩
  · obtain ⟨y15, y16, y17, rfl⟩ := hI
    have hq : q ∈ srt ts := List.mem_of_getElem? hx
    have hr := hS.ok q hq
    have hlk : lk ts q.1 = some q.2 := (mem_srt.mp hq).2
    refine ⟨rfl, rfl, ?_⟩
    show wC4b a (eL A R Ss p x5 x6 x7 x8 x9 x10 x11 x12 (some (tabM (srt ts))) x14 (some (kD q)) (some (rD q.2)) y17 x18 x19) _
    unfold wC4b
    refine sown (past_of (i := 18) (j := 19) (vs := [18, 19]) q.2 (by have := hr.len; omega) (U.noown (by simp)) (Is.ixT (xs := [.str q.2.nm, .str q.2.st, q.2.pl, .tuple (q.2.ps.map pD)]) (Is.rd rfl) Is.cst rfl) (fun p hp => Is.var rfl)) ?_
    refine sfrz rfl ?_
    refine sif2 (IsB.same (x := .tuple [.int (cnt q.2 "shown"), .int (cnt q.2 "lent")]) (Is.lend rfl by20 (Is.meth rfl (IsP.sh (Is.var rfl) IsP.nil) rfl (p_of a H.rg (m := q.1) hlk hn))) (Is.tup (IsS.cons (cnt_is _ _ (Is.var rfl)) (IsS.cons (cnt_is _ _ (Is.var rfl)) IsS.nil))) (two_int _ _)) ?_
    exact hN _ ⟨some (kD q), some (rD q.2), some (.list (q.2.ps.map fun p => PyData.str p.1)), rfl⟩
  · obtain ⟨y15, y16, y17, rfl⟩ := hI
    exact h y15 y16 y17
/-- one turn -/
theorem p_turn (H : Hist n R Ss p ts) (hl : Ss.length ≤ 1000) (hn : n + 1 ≤ 1000)
    (h : ∀ (A' : RA) (R' : Reg) (Ss' : List Tab) (p' : Nat) (ts' : Tab) (y5 y6 y7 y8 y9 y10 y11 y13 y14 y15 y16 y17 y18 y19 : Option PyData) (y12 : Option (List (List Key × PyData))), Hist (n + 1) R' Ss' p' ts' → Ss'.length ≤ Ss.length + 1 → D.nx (eL A' R' Ss' p' y5 y6 y7 y8 y9 y10 y11 y12 y13 y14 y15 y16 y17 y18 y19)) :
    wTurn a (eL A R Ss p x5 x6 x7 x8 x9 x10 x11 x12 x13 x14 x15 x16 x17 x18 x19) D := by
  unfold wTurn
  refine p_br a H hl (by omega) fun A' R' Ss' p' ts' fine y6 y9 y10 y11 y12 H' hl' => ?_
  dsimp only
  refine sqset (Is.ixL (xs := Ss'.map tabM) (n := (p' : Nat)) (Is.rd rfl) (Is.rd rfl) (rows_at H')) ?_
  refine p_c1 a H' ?_
  refine p_c2 a H' fun y14 => ?_
  refine p_c3 a H' ?_
  refine p_c4 a H' hn fun y15 y16 y17 => ?_
  exact h A' R' Ss' p' ts' _ _ _ _ _ _ _ _ _ _ _ _ _ _ _ H' hl'
theorem p_fin (H : Hist n R Ss p ts) (h : D.nx (eL A R Ss p x5 x6 x7 x8 x9 x10 x11 x12 x13 x14 x15 x16 x17 x18 x19)) :
    wFin a (eL A R Ss p x5 x6 x7 x8 x9 x10 x11 x12 x13 x14 x15 x16 x17 x18 x19) D := by
  unfold wFin
  refine sif2 (IsB.same (x := .str "due") (Is.lend rfl by20 (Is.toldNo (Rz.meth rfl (IsP.sh (Is.tup (IsS.cons Is.cst (IsS.cons Is.cst (IsS.cons Is.cst IsS.nil)))) (IsP.sh Is.cst IsP.nil)) rfl (pD_ti2 a)))) Is.cst (pls _)) h
theorem law_body : u_law a ((uns N_law.length).set 1 .dice) (lawEnd N_law.length) := by
  show u_law a [.un, .dice, .un, .un, .un, .un, .un, .un, .un, .un, .un, .un, .un, .un, .un, .un, .un, .un, .un, .un] (lawEnd 20)
  rw [law_eq]
  refine ⟨fun s hs => ?_, ⟨by decide, by decide⟩, fun A => ?_⟩
  · simp only [List.mem_cons, List.not_mem_nil, or_false] at hs
    have : s = .un ∨ s = .dice := by
      rcases hs with h | h | h | h | h | h | h | h | h | h | h | h | h | h | h | h | h | h | h | h <;> first | exact .inl h | exact .inr h
    rcases this with rfl | rfl <;> rfl
  dsimp only
  show sSeq (sFor _ _ _) _ (eL A ⟨[2, 1], [], [], []⟩ [[]] 0 none none none none none none none none none none none none none none none) (lawEnd 20)
  refine Is.roll a rfl (by decide) (by decide) fun r r0 r19 => ⟨⟨by omega, by omega⟩, ?_⟩
  refine U.for_range 0 r.toNat (fun k ρ => ∃ (A' : RA) (R' : Reg) (Ss' : List Tab) (p' : Nat) (ts' : Tab) (y5 y6 y7 y8 y9 y10 y11 y13 y14 y15 y16 y17 y18 y19 : Option PyData) (y12 : Option (List (List Key × PyData))), Hist k R' Ss' p' ts' ∧ Ss'.length ≤ k + 1 ∧ ρ = eL A' R' Ss' p' y5 y6 y7 y8 y9 y10 y11 y12 y13 y14 y15 y16 y17 y18 y19) (fun i ρ N hN hi hI => ?_) (fun ρ hI => ?_) _ ⟨A, _, _, _, _, _, _, _, _, _, _, _, _, _, _, _, _, _, _, _, hist0, by decide, rfl⟩
  · obtain ⟨A', R', Ss', p', ts', y5, y6, y7, y8, y9, y10, y11, y13, y14, y15, y16, y17, y18, y19, y12, H, hl, rfl⟩ := hI
    refine p_turn (x5 := some (.int (0 + (i : Nat)))) a H (by omega) (by omega) fun A2 R2 Ss2 p2 ts2 z5 z6 z7 z8 z9 z10 z11 z13 z14 z15 z16 z17 z18 z19 z12 H2 hl2 => ?_
    exact hN _ ⟨A2, R2, Ss2, p2, ts2, z5, z6, z7, z8, z9, z10, z11, z13, z14, z15, z16, z17, z18, z19, z12, H2, by omega, rfl⟩
  · obtain ⟨A', R', Ss', p', ts', y5, y6, y7, y8, y9, y10, y11, y13, y14, y15, y16, y17, y18, y19, y12, H, hl, rfl⟩ := hI
    exact p_fin a H rfl
theorem pure_law (ns : List Int) (h : ns.length ≤ 63) : i_law a (.scr ns :: uns (N_law.length - 1)) (fun d => ∃ ds, d = .list ds ∧ Triples ds ∧ u_law a ((uns N_law.length).set 1 .dice) (lawEnd N_law.length)) (fun _ => False) :=
  ⟨ns, rfl, rfl, p_rounds a ns 1 h _ _ fun ds t => ⟨ds, rfl, t, law_body a⟩⟩
end
end M17
set_option Elab.async false
set_option linter.all false
set_option maxRecDepth 100000
namespace PL
open PySem PySem.Spec PyProof.Rows
/-- a hook that tells of more tables that they are empty -/
def moreTabs (ps : List Addr) (H : PySem.W.Hook) : PySem.W.Hook where
  α := H.α × List (Option Obj)
  obs := fun s => (H.obs s, ps.map s.heap.get?)
  val := fun w => (H.val w, ps.map fun _ => some { cls := .none, data := .fields #[] })
  says := fun w h => H.says w h ∧ ∀ P ∈ ps, h.get? P = some { cls := .none, data := .fields #[] }
  of := fun w s x => ⟨H.of w s (Prod.mk.inj x).1, List.map_inj_left.mp (Prod.mk.inj x).2⟩
  keeps := fun w h h' x k => ⟨H.keeps w h h' x.1 k, fun P hP => k _ _ (x.2 P hP)⟩
end PL
set_option Elab.async false
set_option linter.all false
set_option maxRecDepth 100000
namespace M17
open PySem PySem.Spec PyProof.Rows L2 PL
theorem fin {l : PySem.W.OpenLaw} {w : World} {K : PySem.W.Frag} {h : Heap} {mg : Str → Option Value} {q : Program} {fa : Addr} (X : K.In h) (G : h.Ns mainGlobals mg) (hfa : mg "law" = some (.ref fa)) (tabs : ∀ (y : Str) (f : Addr), ((recsOf q).any fun e => e.name == y) = true → mg y = some (.ref f) → LamX.OwnTab K f h)
    (hl : l.prog = PySem.Challenge.pw_museum_k17_a_register_and_its_deeds) (hq : ∀ y ∈ [("is_thing" : Str), ("_law_deed" : Str), ("law" : Str)], ((recsOf q).any fun e => e.name == y) = true)
    {f0 c0 : Addr} {oc0 kV0 dc0 pm0 ct0 : Value} {od0 an0 : Option Addr} {sl0 : Array (Option Value)}
    {p0 : Addr} {te0 : Value} {td0 : Option Addr} {tv0 : Array Value} {ts0 : Array (Option Value)}
    {f1 c1 : Addr} {oc1 kV1 dc1 pm1 ct1 : Value} {od1 an1 : Option Addr} {sl1 : Array (Option Value)}
    {f2 c2 : Addr} {oc2 kV2 dc2 pm2 ct2 : Value} {od2 an2 : Option Addr} {sl2 : Array (Option Value)}
    {f3 c3 : Addr} {oc3 kV3 dc3 pm3 ct3 : Value} {od3 an3 : Option Addr} {sl3 : Array (Option Value)}
    {f4 c4 : Addr} {oc4 kV4 dc4 pm4 ct4 : Value} {od4 an4 : Option Addr} {sl4 : Array (Option Value)}
    {f5 c5 : Addr} {oc5 kV5 dc5 pm5 ct5 : Value} {od5 an5 : Option Addr} {sl5 : Array (Option Value)}
    {p5 : Addr} {te5 : Value} {td5 : Option Addr} {tv5 : Array Value} {ts5 : Array (Option Value)}
    {f6 c6 : Addr} {oc6 kV6 dc6 pm6 ct6 : Value} {od6 an6 : Option Addr} {sl6 : Array (Option Value)}
    {p6 : Addr} {te6 : Value} {td6 : Option Addr} {tv6 : Array Value} {ts6 : Array (Option Value)}
    {x0 : Addr}
    {CR p_ri : Addr} {te_ri : Value} {td_ri : Option Addr} {tv_ri : Array Value} {ts_ri : Array (Option Value)}
    {f_ri c_ri : Addr} {oc_ri kV_ri dc_ri pm_ri ct_ri : Value} {od_ri an_ri : Option Addr} {sl_ri : Array (Option Value)}
    {f_st c_st : Addr} {oc_st kV_st dc_st pm_st ct_st : Value} {od_st an_st : Option Addr} {sl_st : Array (Option Value)}
    {f_no c_no : Addr} {oc_no kV_no dc_no pm_no ct_no : Value} {od_no an_no : Option Addr} {sl_no : Array (Option Value)}
    {f_go c_go : Addr} {oc_go kV_go dc_go pm_go ct_go : Value} {od_go an_go : Option Addr} {sl_go : Array (Option Value)}
    {f_ti c_ti : Addr} {oc_ti kV_ti dc_ti pm_ti ct_ti : Value} {od_ti an_ti : Option Addr} {sl_ti : Array (Option Value)}
    {f_pb c_pb : Addr} {oc_pb kV_pb dc_pb pm_pb ct_pb : Value} {od_pb an_pb : Option Addr} {sl_pb : Array (Option Value)}
    {f_si c_si : Addr} {oc_si kV_si dc_si pm_si ct_si : Value} {od_si an_si : Option Addr} {sl_si : Array (Option Value)}
    {f_lt c_lt : Addr} {oc_lt kV_lt dc_lt pm_lt ct_lt : Value} {od_lt an_lt : Option Addr} {sl_lt : Array (Option Value)}
    {f_of c_of : Addr} {oc_of kV_of dc_of pm_of ct_of : Value} {od_of an_of : Option Addr} {sl_of : Array (Option Value)}
    {f_sh c_sh : Addr} {oc_sh kV_sh dc_sh pm_sh ct_sh : Value} {od_sh an_sh : Option Addr} {sl_sh : Array (Option Value)}
    {f_le c_le : Addr} {oc_le kV_le dc_le pm_le ct_le : Value} {od_le an_le : Option Addr} {sl_le : Array (Option Value)}
    {f_lg c_lg : Addr} {oc_lg kV_lg dc_lg pm_lg ct_lg : Value} {od_lg an_lg : Option Addr} {sl_lg : Array (Option Value)}
    {f_rn c_rn : Addr} {oc_rn kV_rn dc_rn pm_rn ct_rn : Value} {od_rn an_rn : Option Addr} {sl_rn : Array (Option Value)}
    {f_un c_un : Addr} {oc_un kV_un dc_un pm_un ct_un : Value} {od_un an_un : Option Addr} {sl_un : Array (Option Value)}
    {f_re c_re : Addr} {oc_re kV_re dc_re pm_re ct_re : Value} {od_re an_re : Option Addr} {sl_re : Array (Option Value)}
    (a0 : PySem.W.nsIn K mainGlobals "is_thing" = some (some (.ref f0)))
    (l0 : K.lookup f0 = some ⟨oc0, od0, .func (PySem.W.fnOf "is_thing" "is_thing" (defArgs s_is_thing) (defBody s_is_thing) (defScope s_is_thing) .none kV0 dc0 pm0 an0 (.ref c0) ct0), sl0⟩)
    (h0 : PySem.W.codeIn K (.ref c0) "is_thing" = true)
    (k0 : PySem.W.keepIn K (.ref f0) = true)
    (t0 : K.lookup c0 = some ⟨te0, td0, .fields tv0, ts0⟩)
    (u0 : tv0[11]? = some (.ref p0))
    (v0 : PySem.W.codeHdIn K c0 p0 = true)
    (w0 : K.lookup p0 = none)
    (a1 : PySem.W.nsIn K mainGlobals "_law_dice" = some (some (.ref f1)))
    (l1 : K.lookup f1 = some ⟨oc1, od1, .func (PySem.W.fnOf "_law_dice" "_law_dice" (defArgs s__law_dice) (defBody s__law_dice) (defScope s__law_dice) .none kV1 dc1 pm1 an1 (.ref c1) ct1), sl1⟩)
    (h1 : PySem.W.codeIn K (.ref c1) "_law_dice" = true)
    (k1 : PySem.W.keepIn K (.ref f1) = true)
    (a2 : PySem.W.nsIn K mainGlobals "_law_roll" = some (some (.ref f2)))
    (l2 : K.lookup f2 = some ⟨oc2, od2, .func (PySem.W.fnOf "_law_roll" "_law_roll" (defArgs s__law_roll) (defBody s__law_roll) (defScope s__law_roll) .none kV2 dc2 pm2 an2 (.ref c2) ct2), sl2⟩)
    (h2 : PySem.W.codeIn K (.ref c2) "_law_roll" = true)
    (k2 : PySem.W.keepIn K (.ref f2) = true)
    (a3 : PySem.W.nsIn K mainGlobals "_law_rounds" = some (some (.ref f3)))
    (l3 : K.lookup f3 = some ⟨oc3, od3, .func (PySem.W.fnOf "_law_rounds" "_law_rounds" (defArgs s__law_rounds) (defBody s__law_rounds) (defScope s__law_rounds) .none kV3 dc3 pm3 an3 (.ref c3) ct3), sl3⟩)
    (h3 : PySem.W.codeIn K (.ref c3) "_law_rounds" = true)
    (k3 : PySem.W.keepIn K (.ref f3) = true)
    (a4 : PySem.W.nsIn K mainGlobals "_law_told" = some (some (.ref f4)))
    (l4 : K.lookup f4 = some ⟨oc4, od4, .func (PySem.W.fnOf "_law_told" "_law_told" (defArgs s__law_told) (defBody s__law_told) (defScope s__law_told) .none kV4 dc4 pm4 an4 (.ref c4) ct4), sl4⟩)
    (h4 : PySem.W.codeIn K (.ref c4) "_law_told" = true)
    (k4 : PySem.W.keepIn K (.ref f4) = true)
    (a5 : PySem.W.nsIn K mainGlobals "_law_deed" = some (some (.ref f5)))
    (l5 : K.lookup f5 = some ⟨oc5, od5, .func (PySem.W.fnOf "_law_deed" "_law_deed" (defArgs s__law_deed) (defBody s__law_deed) (defScope s__law_deed) .none kV5 dc5 pm5 an5 (.ref c5) ct5), sl5⟩)
    (h5 : PySem.W.codeIn K (.ref c5) "_law_deed" = true)
    (k5 : PySem.W.keepIn K (.ref f5) = true)
    (t5 : K.lookup c5 = some ⟨te5, td5, .fields tv5, ts5⟩)
    (u5 : tv5[11]? = some (.ref p5))
    (v5 : PySem.W.codeHdIn K c5 p5 = true)
    (w5 : K.lookup p5 = none)
    (a6 : PySem.W.nsIn K mainGlobals "law" = some (some (.ref f6)))
    (l6 : K.lookup f6 = some ⟨oc6, od6, .func (PySem.W.fnOf "law" "law" (defArgs s_law) (defBody s_law) (defScope s_law) .none kV6 dc6 pm6 an6 (.ref c6) ct6), sl6⟩)
    (h6 : PySem.W.codeIn K (.ref c6) "law" = true)
    (k6 : PySem.W.keepIn K (.ref f6) = true)
    (t6 : K.lookup c6 = some ⟨te6, td6, .fields tv6, ts6⟩)
    (u6 : tv6[11]? = some (.ref p6))
    (v6 : PySem.W.codeHdIn K c6 p6 = true)
    (w6 : K.lookup p6 = none)
    (n0 : PySem.W.nsIn K mainGlobals "BadDeed" = some (some (.ref x0)))
    (o0 : PySem.W.excIn K x0 [.type "ValueError", .type "Exception", .type "BaseException", .type "object"] "ValueError.__new__" = true)
    (q0 : PySem.W.keepIn K (.ref x0) = true)
    (r0 : PySem.W.subIn K (.ref x0) (.type "BaseException") = some true)
    (y0 : PySem.W.typeIn K (.ref x0) = some (.type "type"))
    (em_BadDeed_BadDeed : PySem.W.exmOne K (.ref x0) (.ref x0) = some true)
    (z_abs : PySem.W.nsIn K mainGlobals "abs" = some none)
    (z_all : PySem.W.nsIn K mainGlobals "all" = some none)
    (z_any : PySem.W.nsIn K mainGlobals "any" = some none)
    (z_bool : PySem.W.nsIn K mainGlobals "bool" = some none)
    (z_dict : PySem.W.nsIn K mainGlobals "dict" = some none)
    (z_int : PySem.W.nsIn K mainGlobals "int" = some none)
    (z_isinstance : PySem.W.nsIn K mainGlobals "isinstance" = some none)
    (z_len : PySem.W.nsIn K mainGlobals "len" = some none)
    (z_list : PySem.W.nsIn K mainGlobals "list" = some none)
    (z_min : PySem.W.nsIn K mainGlobals "min" = some none)
    (z_range : PySem.W.nsIn K mainGlobals "range" = some none)
    (z_sorted : PySem.W.nsIn K mainGlobals "sorted" = some none)
    (z_tuple : PySem.W.nsIn K mainGlobals "tuple" = some none)
    (rns : PySem.W.nsIn K mainGlobals "Register" = some (some (.ref CR)))
    (rc1 : PySem.W.plainGet K CR Str.empty = true)
    (rc2 : PySem.W.hasDictIn K CR = true)
    (rc3 : PySem.W.plainOver K CR = true)
    (rc4 : PySem.W.findIn K (.ref CR) "__setattr__" = some (some (.builtin "object.__setattr__")))
    (rn0 : PySem.W.findIn K (.ref CR) "rooms" = some none)
    (rn1 : PySem.W.findIn K (.ref CR) "things" = some none)
    (rn2 : PySem.W.findIn K (.ref CR) "deeds" = some none)
    (rn3 : PySem.W.findIn K (.ref CR) "undone" = some none)
    (rm1 : PySem.W.makesIn K CR = true)
    (rm2 : PySem.W.keepIn K (.ref CR) = true)
    (ra_ri : PySem.W.findIn K (.ref CR) "__init__" = some (some (.ref f_ri)))
    (rb_ri : PySem.W.isFn K (.ref f_ri) = true)
    (rk_ri : PySem.W.keepIn K (.ref f_ri) = true)
    (rl_ri : K.lookup f_ri = some ⟨oc_ri, od_ri, .func (PySem.W.fnOf "__init__" "Register.__init__" (defArgs s_ri) (defBody s_ri) (defScope s_ri) .none kV_ri dc_ri pm_ri an_ri (.ref c_ri) ct_ri), sl_ri⟩)
    (rh_ri : PySem.W.codeIn K (.ref c_ri) "Register.__init__" = true)
    (ra_st : PySem.W.findIn K (.ref CR) "state" = some (some (.ref f_st)))
    (rb_st : PySem.W.isFn K (.ref f_st) = true)
    (rk_st : PySem.W.keepIn K (.ref f_st) = true)
    (rl_st : K.lookup f_st = some ⟨oc_st, od_st, .func (PySem.W.fnOf "state" "Register.state" (defArgs s_st) (defBody s_st) (defScope s_st) .none kV_st dc_st pm_st an_st (.ref c_st) ct_st), sl_st⟩)
    (rh_st : PySem.W.codeIn K (.ref c_st) "Register.state" = true)
    (ra_no : PySem.W.findIn K (.ref CR) "note" = some (some (.ref f_no)))
    (rb_no : PySem.W.isFn K (.ref f_no) = true)
    (rk_no : PySem.W.keepIn K (.ref f_no) = true)
    (rl_no : K.lookup f_no = some ⟨oc_no, od_no, .func (PySem.W.fnOf "note" "Register.note" (defArgs s_no) (defBody s_no) (defScope s_no) .none kV_no dc_no pm_no an_no (.ref c_no) ct_no), sl_no⟩)
    (rh_no : PySem.W.codeIn K (.ref c_no) "Register.note" = true)
    (ra_go : PySem.W.findIn K (.ref CR) "go_on" = some (some (.ref f_go)))
    (rb_go : PySem.W.isFn K (.ref f_go) = true)
    (rk_go : PySem.W.keepIn K (.ref f_go) = true)
    (rl_go : K.lookup f_go = some ⟨oc_go, od_go, .func (PySem.W.fnOf "go_on" "Register.go_on" (defArgs s_go) (defBody s_go) (defScope s_go) .none kV_go dc_go pm_go an_go (.ref c_go) ct_go), sl_go⟩)
    (rh_go : PySem.W.codeIn K (.ref c_go) "Register.go_on" = true)
    (ra_ti : PySem.W.findIn K (.ref CR) "take_in" = some (some (.ref f_ti)))
    (rb_ti : PySem.W.isFn K (.ref f_ti) = true)
    (rk_ti : PySem.W.keepIn K (.ref f_ti) = true)
    (rl_ti : K.lookup f_ti = some ⟨oc_ti, od_ti, .func (PySem.W.fnOf "take_in" "Register.take_in" (defArgs s_ti) (defBody s_ti) (defScope s_ti) .none kV_ti dc_ti pm_ti an_ti (.ref c_ti) ct_ti), sl_ti⟩)
    (rh_ti : PySem.W.codeIn K (.ref c_ti) "Register.take_in" = true)
    (ra_pb : PySem.W.findIn K (.ref CR) "put_by" = some (some (.ref f_pb)))
    (rb_pb : PySem.W.isFn K (.ref f_pb) = true)
    (rk_pb : PySem.W.keepIn K (.ref f_pb) = true)
    (rl_pb : K.lookup f_pb = some ⟨oc_pb, od_pb, .func (PySem.W.fnOf "put_by" "Register.put_by" (defArgs s_pb) (defBody s_pb) (defScope s_pb) .none kV_pb dc_pb pm_pb an_pb (.ref c_pb) ct_pb), sl_pb⟩)
    (rh_pb : PySem.W.codeIn K (.ref c_pb) "Register.put_by" = true)
    (ra_si : PySem.W.findIn K (.ref CR) "shown_in" = some (some (.ref f_si)))
    (rb_si : PySem.W.isFn K (.ref f_si) = true)
    (rk_si : PySem.W.keepIn K (.ref f_si) = true)
    (rl_si : K.lookup f_si = some ⟨oc_si, od_si, .func (PySem.W.fnOf "shown_in" "Register.shown_in" (defArgs s_si) (defBody s_si) (defScope s_si) .none kV_si dc_si pm_si an_si (.ref c_si) ct_si), sl_si⟩)
    (rh_si : PySem.W.codeIn K (.ref c_si) "Register.shown_in" = true)
    (ra_lt : PySem.W.findIn K (.ref CR) "lent_to" = some (some (.ref f_lt)))
    (rb_lt : PySem.W.isFn K (.ref f_lt) = true)
    (rk_lt : PySem.W.keepIn K (.ref f_lt) = true)
    (rl_lt : K.lookup f_lt = some ⟨oc_lt, od_lt, .func (PySem.W.fnOf "lent_to" "Register.lent_to" (defArgs s_lt) (defBody s_lt) (defScope s_lt) .none kV_lt dc_lt pm_lt an_lt (.ref c_lt) ct_lt), sl_lt⟩)
    (rh_lt : PySem.W.codeIn K (.ref c_lt) "Register.lent_to" = true)
    (ra_of : PySem.W.findIn K (.ref CR) "often" = some (some (.ref f_of)))
    (rb_of : PySem.W.isFn K (.ref f_of) = true)
    (rk_of : PySem.W.keepIn K (.ref f_of) = true)
    (rl_of : K.lookup f_of = some ⟨oc_of, od_of, .func (PySem.W.fnOf "often" "Register.often" (defArgs s_of) (defBody s_of) (defScope s_of) .none kV_of dc_of pm_of an_of (.ref c_of) ct_of), sl_of⟩)
    (rh_of : PySem.W.codeIn K (.ref c_of) "Register.often" = true)
    (ra_sh : PySem.W.findIn K (.ref CR) "show" = some (some (.ref f_sh)))
    (rb_sh : PySem.W.isFn K (.ref f_sh) = true)
    (rk_sh : PySem.W.keepIn K (.ref f_sh) = true)
    (rl_sh : K.lookup f_sh = some ⟨oc_sh, od_sh, .func (PySem.W.fnOf "show" "Register.show" (defArgs s_sh) (defBody s_sh) (defScope s_sh) .none kV_sh dc_sh pm_sh an_sh (.ref c_sh) ct_sh), sl_sh⟩)
    (rh_sh : PySem.W.codeIn K (.ref c_sh) "Register.show" = true)
    (ra_le : PySem.W.findIn K (.ref CR) "lend" = some (some (.ref f_le)))
    (rb_le : PySem.W.isFn K (.ref f_le) = true)
    (rk_le : PySem.W.keepIn K (.ref f_le) = true)
    (rl_le : K.lookup f_le = some ⟨oc_le, od_le, .func (PySem.W.fnOf "lend" "Register.lend" (defArgs s_le) (defBody s_le) (defScope s_le) .none kV_le dc_le pm_le an_le (.ref c_le) ct_le), sl_le⟩)
    (rh_le : PySem.W.codeIn K (.ref c_le) "Register.lend" = true)
    (ra_lg : PySem.W.findIn K (.ref CR) "let_go" = some (some (.ref f_lg)))
    (rb_lg : PySem.W.isFn K (.ref f_lg) = true)
    (rk_lg : PySem.W.keepIn K (.ref f_lg) = true)
    (rl_lg : K.lookup f_lg = some ⟨oc_lg, od_lg, .func (PySem.W.fnOf "let_go" "Register.let_go" (defArgs s_lg) (defBody s_lg) (defScope s_lg) .none kV_lg dc_lg pm_lg an_lg (.ref c_lg) ct_lg), sl_lg⟩)
    (rh_lg : PySem.W.codeIn K (.ref c_lg) "Register.let_go" = true)
    (ra_rn : PySem.W.findIn K (.ref CR) "rename" = some (some (.ref f_rn)))
    (rb_rn : PySem.W.isFn K (.ref f_rn) = true)
    (rk_rn : PySem.W.keepIn K (.ref f_rn) = true)
    (rl_rn : K.lookup f_rn = some ⟨oc_rn, od_rn, .func (PySem.W.fnOf "rename" "Register.rename" (defArgs s_rn) (defBody s_rn) (defScope s_rn) .none kV_rn dc_rn pm_rn an_rn (.ref c_rn) ct_rn), sl_rn⟩)
    (rh_rn : PySem.W.codeIn K (.ref c_rn) "Register.rename" = true)
    (ra_un : PySem.W.findIn K (.ref CR) "undo" = some (some (.ref f_un)))
    (rb_un : PySem.W.isFn K (.ref f_un) = true)
    (rk_un : PySem.W.keepIn K (.ref f_un) = true)
    (rl_un : K.lookup f_un = some ⟨oc_un, od_un, .func (PySem.W.fnOf "undo" "Register.undo" (defArgs s_un) (defBody s_un) (defScope s_un) .none kV_un dc_un pm_un an_un (.ref c_un) ct_un), sl_un⟩)
    (rh_un : PySem.W.codeIn K (.ref c_un) "Register.undo" = true)
    (ra_re : PySem.W.findIn K (.ref CR) "redo" = some (some (.ref f_re)))
    (rb_re : PySem.W.isFn K (.ref f_re) = true)
    (rk_re : PySem.W.keepIn K (.ref f_re) = true)
    (rl_re : K.lookup f_re = some ⟨oc_re, od_re, .func (PySem.W.fnOf "redo" "Register.redo" (defArgs s_re) (defBody s_re) (defScope s_re) .none kV_re dc_re pm_re an_re (.ref c_re) ct_re), sl_re⟩)
    (rh_re : PySem.W.codeIn K (.ref c_re) "Register.redo" = true)
    (t_ri : K.lookup c_ri = some ⟨te_ri, td_ri, .fields tv_ri, ts_ri⟩)
    (u_ri : tv_ri[11]? = some (.ref p_ri))
    (v_ri : PySem.W.codeHdIn K c_ri p_ri = true)
    (w_ri : K.lookup p_ri = none)
    (em_ri : h.get? p_ri = some { cls := .none, data := .fields #[] })
    (offl : [p5, p6].Nodup)
    (off : ∀ p ∈ ([p0, p_ri] : List Addr), p ∉ ([p5, p6] ++ [] : List Addr))
    (offm : ∀ p ∈ ([p5, p6] : List Addr), p ∉ ([p0, p_ri] ++ [] : List Addr))
    : LamX.LawAtS l w K (L2.CX l.prog w) 41 63 "script" mg fa h :=
  law_at (a := { f_is_thing := f0, c_is_thing := c0, d_is_thing := PySem.W.fnOf "is_thing" "is_thing" (defArgs s_is_thing) (defBody s_is_thing) (defScope s_is_thing) .none kV0 dc0 pm0 an0 (.ref c0) ct0, p_is_thing := p0, f__law_dice := f1, c__law_dice := c1, d__law_dice := PySem.W.fnOf "_law_dice" "_law_dice" (defArgs s__law_dice) (defBody s__law_dice) (defScope s__law_dice) .none kV1 dc1 pm1 an1 (.ref c1) ct1, f__law_roll := f2, c__law_roll := c2, d__law_roll := PySem.W.fnOf "_law_roll" "_law_roll" (defArgs s__law_roll) (defBody s__law_roll) (defScope s__law_roll) .none kV2 dc2 pm2 an2 (.ref c2) ct2, f__law_rounds := f3, c__law_rounds := c3, d__law_rounds := PySem.W.fnOf "_law_rounds" "_law_rounds" (defArgs s__law_rounds) (defBody s__law_rounds) (defScope s__law_rounds) .none kV3 dc3 pm3 an3 (.ref c3) ct3, f__law_told := f4, c__law_told := c4, d__law_told := PySem.W.fnOf "_law_told" "_law_told" (defArgs s__law_told) (defBody s__law_told) (defScope s__law_told) .none kV4 dc4 pm4 an4 (.ref c4) ct4, f__law_deed := f5, c__law_deed := c5, d__law_deed := PySem.W.fnOf "_law_deed" "_law_deed" (defArgs s__law_deed) (defBody s__law_deed) (defScope s__law_deed) .none kV5 dc5 pm5 an5 (.ref c5) ct5, p__law_deed := p5, f_law := f6, c_law := c6, d_law := PySem.W.fnOf "law" "law" (defArgs s_law) (defBody s_law) (defScope s_law) .none kV6 dc6 pm6 an6 (.ref c6) ct6, p_law := p6, x_BadDeed := x0, C_R := CR, p_ri := p_ri, f_ri := f_ri, c_ri := c_ri, d_ri := PySem.W.fnOf "__init__" "Register.__init__" (defArgs s_ri) (defBody s_ri) (defScope s_ri) .none kV_ri dc_ri pm_ri an_ri (.ref c_ri) ct_ri, f_st := f_st, c_st := c_st, d_st := PySem.W.fnOf "state" "Register.state" (defArgs s_st) (defBody s_st) (defScope s_st) .none kV_st dc_st pm_st an_st (.ref c_st) ct_st, f_no := f_no, c_no := c_no, d_no := PySem.W.fnOf "note" "Register.note" (defArgs s_no) (defBody s_no) (defScope s_no) .none kV_no dc_no pm_no an_no (.ref c_no) ct_no, f_go := f_go, c_go := c_go, d_go := PySem.W.fnOf "go_on" "Register.go_on" (defArgs s_go) (defBody s_go) (defScope s_go) .none kV_go dc_go pm_go an_go (.ref c_go) ct_go, f_ti := f_ti, c_ti := c_ti, d_ti := PySem.W.fnOf "take_in" "Register.take_in" (defArgs s_ti) (defBody s_ti) (defScope s_ti) .none kV_ti dc_ti pm_ti an_ti (.ref c_ti) ct_ti, f_pb := f_pb, c_pb := c_pb, d_pb := PySem.W.fnOf "put_by" "Register.put_by" (defArgs s_pb) (defBody s_pb) (defScope s_pb) .none kV_pb dc_pb pm_pb an_pb (.ref c_pb) ct_pb, f_si := f_si, c_si := c_si, d_si := PySem.W.fnOf "shown_in" "Register.shown_in" (defArgs s_si) (defBody s_si) (defScope s_si) .none kV_si dc_si pm_si an_si (.ref c_si) ct_si, f_lt := f_lt, c_lt := c_lt, d_lt := PySem.W.fnOf "lent_to" "Register.lent_to" (defArgs s_lt) (defBody s_lt) (defScope s_lt) .none kV_lt dc_lt pm_lt an_lt (.ref c_lt) ct_lt, f_of := f_of, c_of := c_of, d_of := PySem.W.fnOf "often" "Register.often" (defArgs s_of) (defBody s_of) (defScope s_of) .none kV_of dc_of pm_of an_of (.ref c_of) ct_of, f_sh := f_sh, c_sh := c_sh, d_sh := PySem.W.fnOf "show" "Register.show" (defArgs s_sh) (defBody s_sh) (defScope s_sh) .none kV_sh dc_sh pm_sh an_sh (.ref c_sh) ct_sh, f_le := f_le, c_le := c_le, d_le := PySem.W.fnOf "lend" "Register.lend" (defArgs s_le) (defBody s_le) (defScope s_le) .none kV_le dc_le pm_le an_le (.ref c_le) ct_le, f_lg := f_lg, c_lg := c_lg, d_lg := PySem.W.fnOf "let_go" "Register.let_go" (defArgs s_lg) (defBody s_lg) (defScope s_lg) .none kV_lg dc_lg pm_lg an_lg (.ref c_lg) ct_lg, f_rn := f_rn, c_rn := c_rn, d_rn := PySem.W.fnOf "rename" "Register.rename" (defArgs s_rn) (defBody s_rn) (defScope s_rn) .none kV_rn dc_rn pm_rn an_rn (.ref c_rn) ct_rn, f_un := f_un, c_un := c_un, d_un := PySem.W.fnOf "undo" "Register.undo" (defArgs s_un) (defBody s_un) (defScope s_un) .none kV_un dc_un pm_un an_un (.ref c_un) ct_un, f_re := f_re, c_re := c_re, d_re := PySem.W.fnOf "redo" "Register.redo" (defArgs s_re) (defBody s_re) (defScope s_re) .none kV_re dc_re pm_re an_re (.ref c_re) ct_re }) { d_is_thing := def_mk a0 l0 h0 k0, d__law_dice := def_mk a1 l1 h1 k1, d__law_roll := def_mk a2 l2 h2 k2, d__law_rounds := def_mk a3 l3 h3 k3, d__law_told := def_mk a4 l4 h4 k4, d__law_deed := def_mk a5 l5 h5 k5, d_law := def_mk a6 l6 h6 k6, x_BadDeed := ⟨n0, q0, r0, y0⟩, xe_BadDeed := o0, em_BadDeed_BadDeed := em_BadDeed_BadDeed, m_abs := z_abs, m_all := z_all, m_any := z_any, m_bool := z_bool, m_dict := z_dict, m_int := z_int, m_isinstance := z_isinstance, m_len := z_len, m_list := z_list, m_min := z_min, m_range := z_range, m_sorted := z_sorted, m_tuple := z_tuple, F_ri := ⟨⟨oc_ri, od_ri, kV_ri, dc_ri, pm_ri, an_ri, ct_ri, sl_ri, rfl, rl_ri, rh_ri⟩, rk_ri⟩, F_st := ⟨⟨oc_st, od_st, kV_st, dc_st, pm_st, an_st, ct_st, sl_st, rfl, rl_st, rh_st⟩, rk_st⟩, me_st := ⟨ra_st, rb_st, rk_st⟩, F_no := ⟨⟨oc_no, od_no, kV_no, dc_no, pm_no, an_no, ct_no, sl_no, rfl, rl_no, rh_no⟩, rk_no⟩, me_no := ⟨ra_no, rb_no, rk_no⟩, F_go := ⟨⟨oc_go, od_go, kV_go, dc_go, pm_go, an_go, ct_go, sl_go, rfl, rl_go, rh_go⟩, rk_go⟩, me_go := ⟨ra_go, rb_go, rk_go⟩, F_ti := ⟨⟨oc_ti, od_ti, kV_ti, dc_ti, pm_ti, an_ti, ct_ti, sl_ti, rfl, rl_ti, rh_ti⟩, rk_ti⟩, me_ti := ⟨ra_ti, rb_ti, rk_ti⟩, F_pb := ⟨⟨oc_pb, od_pb, kV_pb, dc_pb, pm_pb, an_pb, ct_pb, sl_pb, rfl, rl_pb, rh_pb⟩, rk_pb⟩, me_pb := ⟨ra_pb, rb_pb, rk_pb⟩, F_si := ⟨⟨oc_si, od_si, kV_si, dc_si, pm_si, an_si, ct_si, sl_si, rfl, rl_si, rh_si⟩, rk_si⟩, me_si := ⟨ra_si, rb_si, rk_si⟩, F_lt := ⟨⟨oc_lt, od_lt, kV_lt, dc_lt, pm_lt, an_lt, ct_lt, sl_lt, rfl, rl_lt, rh_lt⟩, rk_lt⟩, me_lt := ⟨ra_lt, rb_lt, rk_lt⟩, F_of := ⟨⟨oc_of, od_of, kV_of, dc_of, pm_of, an_of, ct_of, sl_of, rfl, rl_of, rh_of⟩, rk_of⟩, me_of := ⟨ra_of, rb_of, rk_of⟩, F_sh := ⟨⟨oc_sh, od_sh, kV_sh, dc_sh, pm_sh, an_sh, ct_sh, sl_sh, rfl, rl_sh, rh_sh⟩, rk_sh⟩, me_sh := ⟨ra_sh, rb_sh, rk_sh⟩, F_le := ⟨⟨oc_le, od_le, kV_le, dc_le, pm_le, an_le, ct_le, sl_le, rfl, rl_le, rh_le⟩, rk_le⟩, me_le := ⟨ra_le, rb_le, rk_le⟩, F_lg := ⟨⟨oc_lg, od_lg, kV_lg, dc_lg, pm_lg, an_lg, ct_lg, sl_lg, rfl, rl_lg, rh_lg⟩, rk_lg⟩, me_lg := ⟨ra_lg, rb_lg, rk_lg⟩, F_rn := ⟨⟨oc_rn, od_rn, kV_rn, dc_rn, pm_rn, an_rn, ct_rn, sl_rn, rfl, rl_rn, rh_rn⟩, rk_rn⟩, me_rn := ⟨ra_rn, rb_rn, rk_rn⟩, F_un := ⟨⟨oc_un, od_un, kV_un, dc_un, pm_un, an_un, ct_un, sl_un, rfl, rl_un, rh_un⟩, rk_un⟩, me_un := ⟨ra_un, rb_un, rk_un⟩, F_re := ⟨⟨oc_re, od_re, kV_re, dc_re, pm_re, an_re, ct_re, sl_re, rfl, rl_re, rh_re⟩, rk_re⟩, me_re := ⟨ra_re, rb_re, rk_re⟩, R := ⟨rns, ⟨rc1, rc2, rc3, rc4⟩, rn0, rn1, rn2, rn3⟩, mk_ri := ⟨rm1, ra_ri, rb_ri, rm2⟩, off := off, offm := offm, offl := offl } ⟨by
    intro p hp
    simp only [cs, List.mem_cons, List.not_mem_nil, or_false] at hp
    rcases hp with rfl | rfl | rfl | rfl
    · exact v0
    · exact v5
    · exact v6
    · exact v_ri,
   by
    intro p hp
    simp only [cs, List.mem_cons, List.not_mem_nil, or_false] at hp
    rcases hp with rfl | rfl | rfl | rfl
    · exact w0
    · exact w5
    · exact w6
    · exact w_ri,
   by
    intro p hp
    simp only [cs, List.mem_cons, List.not_mem_nil, or_false] at hp
    rcases hp with rfl | rfl | rfl | rfl
    · exact (tab_mk t0 u0 v0 w0).empty (def_mk a0 l0 h0 k0).F (tabs "is_thing" _ (hq _ (by simp)) (PySem.W.mg_of X G a0))
    · exact (tab_mk t5 u5 v5 w5).empty (def_mk a5 l5 h5 k5).F (tabs "_law_deed" _ (hq _ (by simp)) (PySem.W.mg_of X G a5))
    · exact (tab_mk t6 u6 v6 w6).empty (def_mk a6 l6 h6 k6).F (tabs "law" _ (hq _ (by simp)) (PySem.W.mg_of X G a6))
    · exact em_ri⟩ X G hl hfa (pure_law _)
end M17
open PySem PySem.W PyProof.Rows
local macro_rules
  | `(tactic| o_head $H:term) => do
    if (H.raw.find? fun s => s.getId.eraseMacroScopes == `PL.moreTabs).isSome then Lean.Macro.throwUnsupported
    `(tactic| o_head (PL.moreTabs [55] $H))
set_option maxHeartbeats 0 in
theorem PySem.Challenge.cw_museum_k17_a_register_and_its_deeds_holds : PySem.Challenge.rw_museum_k17_a_register_and_its_deeds.Holds := by
  w_on; o_law; k_head; (case hw => w_witness2)
  k_fill
  refine PL.walk_all (l := PySem.Challenge.rw_museum_k17_a_register_and_its_deeds) (n := 63) (k := 41) (x := "script") (CX := fun w => L2.CX PySem.Challenge.rw_museum_k17_a_register_and_its_deeds.prog w) rfl (by decide) rfl ⟨rfl, by decide, by decide⟩ (fun w h Y => PySem.W.km_in_of Y.1) ?F ?C
  case F =>
    intro w mg fa h Y KX G hmg tabs
    refine' M17.fin KX G hmg tabs rfl ?hq ?a0 ?l0 ?h0 ?k0 ?t0 ?u0 ?v0 ?w0 ?a1 ?l1 ?h1 ?k1 ?a2 ?l2 ?h2 ?k2 ?a3 ?l3 ?h3 ?k3 ?a4 ?l4 ?h4 ?k4 ?a5 ?l5 ?h5 ?k5 ?t5 ?u5 ?v5 ?w5 ?a6 ?l6 ?h6 ?k6 ?t6 ?u6 ?v6 ?w6 ?n0 ?o0 ?q0 ?r0 ?y0 ?em_BadDeed_BadDeed ?z_abs ?z_all ?z_any ?z_bool ?z_dict ?z_int ?z_isinstance ?z_len ?z_list ?z_min ?z_range ?z_sorted ?z_tuple ?rns ?rc1 ?rc2 ?rc3 ?rc4 ?rn0 ?rn1 ?rn2 ?rn3 ?rm1 ?rm2 ?ra_ri ?rb_ri ?rk_ri ?rl_ri ?rh_ri ?ra_st ?rb_st ?rk_st ?rl_st ?rh_st ?ra_no ?rb_no ?rk_no ?rl_no ?rh_no ?ra_go ?rb_go ?rk_go ?rl_go ?rh_go ?ra_ti ?rb_ti ?rk_ti ?rl_ti ?rh_ti ?ra_pb ?rb_pb ?rk_pb ?rl_pb ?rh_pb ?ra_si ?rb_si ?rk_si ?rl_si ?rh_si ?ra_lt ?rb_lt ?rk_lt ?rl_lt ?rh_lt ?ra_of ?rb_of ?rk_of ?rl_of ?rh_of ?ra_sh ?rb_sh ?rk_sh ?rl_sh ?rh_sh ?ra_le ?rb_le ?rk_le ?rl_le ?rh_le ?ra_lg ?rb_lg ?rk_lg ?rl_lg ?rh_lg ?ra_rn ?rb_rn ?rk_rn ?rl_rn ?rh_rn ?ra_un ?rb_un ?rk_un ?rl_un ?rh_un ?ra_re ?rb_re ?rk_re ?rl_re ?rh_re ?t_ri ?u_ri ?v_ri ?w_ri ?em_ri ?offl ?off ?offm
    case hq => decide +kernel
    case a0 => k_is
    case l0 => k_is
    case h0 => k_is
    case k0 => k_is
    case t0 => k_is
    case u0 => (first | rfl | k_is)
    case v0 => kernel_rfl
    case w0 => kernel_rfl
    case a1 => k_is
    case l1 => k_is
    case h1 => k_is
    case k1 => k_is
    case a2 => k_is
    case l2 => k_is
    case h2 => k_is
    case k2 => k_is
    case a3 => k_is
    case l3 => k_is
    case h3 => k_is
    case k3 => k_is
    case a4 => k_is
    case l4 => k_is
    case h4 => k_is
    case k4 => k_is
    case a5 => k_is
    case l5 => k_is
    case h5 => k_is
    case k5 => k_is
    case t5 => k_is
    case u5 => (first | rfl | k_is)
    case v5 => kernel_rfl
    case w5 => kernel_rfl
    case a6 => k_is
    case l6 => k_is
    case h6 => k_is
    case k6 => k_is
    case t6 => k_is
    case u6 => (first | rfl | k_is)
    case v6 => kernel_rfl
    case w6 => kernel_rfl
    case n0 => k_is
    case o0 => kernel_rfl
    case q0 => k_is
    case r0 => k_is
    case y0 => k_is
    case em_BadDeed_BadDeed => kernel_rfl
    case z_abs => k_is
    case z_all => k_is
    case z_any => k_is
    case z_bool => k_is
    case z_dict => k_is
    case z_int => k_is
    case z_isinstance => k_is
    case z_len => k_is
    case z_list => k_is
    case z_min => k_is
    case z_range => k_is
    case z_sorted => k_is
    case z_tuple => k_is
    case rns => k_is
    case rc1 => kernel_rfl
    case rc2 => kernel_rfl
    case rc3 => kernel_rfl
    case rc4 => k_is
    case rn0 => k_is
    case rn1 => k_is
    case rn2 => k_is
    case rn3 => k_is
    case rm1 => kernel_rfl
    case rm2 => k_is
    case ra_ri => k_is
    case rb_ri => kernel_rfl
    case rk_ri => k_is
    case rl_ri => k_is
    case rh_ri => k_is
    case ra_st => k_is
    case rb_st => kernel_rfl
    case rk_st => k_is
    case rl_st => k_is
    case rh_st => k_is
    case ra_no => k_is
    case rb_no => kernel_rfl
    case rk_no => k_is
    case rl_no => k_is
    case rh_no => k_is
    case ra_go => k_is
    case rb_go => kernel_rfl
    case rk_go => k_is
    case rl_go => k_is
    case rh_go => k_is
    case ra_ti => k_is
    case rb_ti => kernel_rfl
    case rk_ti => k_is
    case rl_ti => k_is
    case rh_ti => k_is
    case ra_pb => k_is
    case rb_pb => kernel_rfl
    case rk_pb => k_is
    case rl_pb => k_is
    case rh_pb => k_is
    case ra_si => k_is
    case rb_si => kernel_rfl
    case rk_si => k_is
    case rl_si => k_is
    case rh_si => k_is
    case ra_lt => k_is
    case rb_lt => kernel_rfl
    case rk_lt => k_is
    case rl_lt => k_is
    case rh_lt => k_is
    case ra_of => k_is
    case rb_of => kernel_rfl
    case rk_of => k_is
    case rl_of => k_is
    case rh_of => k_is
    case ra_sh => k_is
    case rb_sh => kernel_rfl
    case rk_sh => k_is
    case rl_sh => k_is
    case rh_sh => k_is
    case ra_le => k_is
    case rb_le => kernel_rfl
    case rk_le => k_is
    case rl_le => k_is
    case rh_le => k_is
    case ra_lg => k_is
    case rb_lg => kernel_rfl
    case rk_lg => k_is
    case rl_lg => k_is
    case rh_lg => k_is
    case ra_rn => k_is
    case rb_rn => kernel_rfl
    case rk_rn => k_is
    case rl_rn => k_is
    case rh_rn => k_is
    case ra_un => k_is
    case rb_un => kernel_rfl
    case rk_un => k_is
    case rl_un => k_is
    case rh_un => k_is
    case ra_re => k_is
    case rb_re => kernel_rfl
    case rk_re => k_is
    case rl_re => k_is
    case rh_re => k_is
    case t_ri => k_is
    case u_ri => (first | rfl | k_is)
    case v_ri => kernel_rfl
    case w_ri => kernel_rfl
    case em_ri => (exact Y.2 _ (by decide))
    case offl => decide
    case off => decide
    case offm => decide
  case C =>
    intro w H s e s' z
    obtain ⟨_, _, _, _, _, _, _, _, _, _, _, _, z⟩ := z
    exact z
