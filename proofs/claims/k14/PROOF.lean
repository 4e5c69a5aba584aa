import PyProof.Rows.All
import Wide.All
import OpenK.AllK
import Wide.FinOn
import PyProof.EqAt
import PyProof.EqKinds
import PyProof.TupleCall
import KE.KNest
import HandS.ForMost
import HandS.AnyAll
import HandS.GenOver
import HandS.GenList
import HandS.ForExc
import HandS.Lambda
import HandS.Deep
import KE.DataEq
import KE.DataCmp
import KE.DataMinMax
import KE.DatumMoreOrd
import KE.SortData
import HandS.TupAny
import HandS.Style
import HandS.ExcOwn
import HandS.WordsExc
import HandS.Rev
import HandS.RevTup
import PyProof.ListNew
import PyProof.StrOps2
import HandS.TryMany
import HandS.EndOwn
import HandS.EndTab
import KE.KNestM
import HandS.SetFor
import KE.SortKeyed
import HandS.Conv
import HandS.Set
import HandS.SetKeys
import HandS.SetBool
import HandS.TupSets
import HandS.IsInst
import KE.KDictPairs
import HandS.ListItems
import HandS.DictTup
import PyProof.TupleOfSeq
import KE.GoesEnum
import PySem.Challenge.RW_museum_k14_loans_and_light
set_option Elab.async false
set_option linter.all false
set_option maxRecDepth 100000
set_option maxHeartbeats 2000000
/-! any, all, sum of a generator expression, its element anything that the layer reads. -/
namespace GxI
open PySem PySem.Spec PyProof.Rows L2

/-- the context of a generator expression's frame -/
abbrev gcx (X : Cx) (A : Around) (s : Shared) (H : Hp) (cenv : Env) (fp : List Addr) : Cx :=
  { X with A := A, s_0 := s, H_0 := H, env := cenv, outer := X.stack, stack := cenv :: X.stack, ex := fp, fn := fun _ => false, pn := [], xe := fun _ _ => False }

/-- the generator expression's own names -/
structure GxS (env : Env) (scope : Scope) : Prop where
  co : scope.isCoroutine = false
  nocell : ∀ y ∈ scope.names, y.2 ≠ .cell
  dot : scope.names.lookup (".0" : Str) = some NameKind.local

section
variable {X : Cx} {pins : List (Addr × Obj)} {σ : L2.St} {H : Hp} {s : Shared}

theorem clo_mem (I : Inv X pins σ H s) {scope : Scope} {own : List (Str × Nat)} (ok : BlkOk X.N X.env.scope scope own) {y : Str} {c : Addr} (hm : (cloFrom X.env.cells scope.names []).lookup y = some c) :
    X.env.cells.lookup y = some c ∧ c < s.heap.objs.size ∧ scope.names.lookup y = some .free := by
  rcases cloFrom_mem (PySem.mem_of_lookup hm) with hm | ⟨h1, rfl⟩
  · cases hm
  · have hc : ∃ c, X.env.cells.lookup y = some c := by
      rcases ok.free _ h1 rfl with k | k
      · exact I.ok.has _ (.inl k)
      · exact I.ok.has _ (.inr k)
    obtain ⟨c, hc⟩ := hc
    rw [hc]
    obtain ⟨w, z⟩ := I.cell _ _ hc
    exact ⟨rfl, z.lt, ok.uniq _ h1⟩

theorem gen_start {A : Around} {scope : Scope} {own : List (Str × Nat)} {fp : List Addr} {code : Value} {g' : Array GenState} {h' : Heap} {tk : Nat} {m : Str → Option Value}
    (I : Inv X pins σ H s) (ok : BlkOk X.N X.env.scope scope own) (gs : GxS X.env scope) (hN : X.N.Nodup) (hfp : ∀ b ∈ fp, FpOk X pins H b ∧ b < s.heap.objs.size)
    (hA : A.handled = none) (hAf : A.frames = some (genEnv scope (cloFrom X.env.cells scope.names []) s.heap.objs.size code builtinsNs X.env :: X.stack))
    (hns : h'.Ns s.heap.objs.size m) (kp : ∀ b o, s.heap.get? b = some o → h'.get? b = some o) (hg : AllBare g') :
    Inv (gcx X A s H (genEnv scope (cloFrom X.env.cells scope.names []) s.heap.objs.size code builtinsNs X.env) fp) [] (wipe σ (own.map (·.2))) H { s with heap := h', gens := g', toks := tk } := by
  generalize hce : genEnv scope (cloFrom X.env.cells scope.names []) s.heap.objs.size code builtinsNs X.env = ce at hAf ⊢
  have cL : ce.locals = s.heap.objs.size := by subst hce; rfl
  have cC : ce.cells = cloFrom X.env.cells scope.names [] := by subst hce; rfl
  have cS : ce.scope = scope := by subst hce; rfl
  have mem : ∀ {y c}, ce.cells.lookup y = some c → X.env.cells.lookup y = some c ∧ c < s.heap.objs.size ∧ scope.names.lookup y = some .free := fun {y c} e => by
    rw [cC] at e
    exact clo_mem I ok e
  have look : ∀ {y}, scope.names.lookup y = some .free → ∃ c, ce.cells.lookup y = some c ∧ X.env.cells.lookup y = some c := fun {y} hl => by
    obtain ⟨c', e'⟩ := mem_lookup (cloFrom_has (cells := X.env.cells) (acc := []) (PySem.mem_of_lookup hl))
    rw [← cC] at e'
    exact ⟨c', e', (mem e').1⟩
  have okB : (gcx X A s H ce fp).Ok := by
    refine ⟨I.ok.mod, by show ce.scope.kind = _; rw [cS]; exact ok.kind, by show ce.globals = _; rw [← hce]; exact I.ok.glob, by show ce.builtins = _; rw [← hce]; rfl, by show s.heap.objs.size ≤ ce.locals; rw [cL]; exact Nat.le_refl _,
      fun y z c e1 e2 => I.ok.inj y z c (mem e1).1 (mem e2).1, fun y hy => ?_, fun y c z e => ?_, fun _ => hA, hAf, .inr ⟨rfl, by show ce.frame = some ce.locals; rw [← hce]; rfl⟩, fun b hb => ⟨?_, fun y c e z => ?_⟩, I.bs, Nat.le_trans I.ok.bsz I.sz, fun b o e hb => ?_, fun b hb z => ?_, I.stack, I.stkFree⟩
    · show ∃ c, ce.cells.lookup y = some c
      have hy : ce.scope.names.lookup y = some .cell ∨ ce.scope.names.lookup y = some .free := hy
      rw [cS] at hy
      rcases hy with hy | hy
      · exact absurd rfl (gs.nocell _ (PySem.mem_of_lookup hy))
      · obtain ⟨c, h1, _⟩ := look hy
        exact ⟨c, h1⟩
    · cases z
    · show b ≠ ce.locals
      rw [cL]; exact Nat.ne_of_lt (hfp b hb).2
    · have e : ce.cells.lookup y = some c := e
      exact (hfp b hb).1.2.2.2.2.1 y c (mem e).1 z
    · rcases (hfp b hb).1.2.2.2.1 with z | z
      · exact I.ok.noex b o e z
      · exact absurd (Nat.lt_of_lt_of_le (Heap.lt_size e) (Nat.le_trans I.ok.bsz z)) (Nat.lt_irrefl _)
    · rcases List.mem_cons.mp (I.stkSub b z) with z | z
      · exact (hfp b hb).1.2.1 z
      · exact (hfp b hb).1.2.2.1 z
  refine ⟨okB, rfl, hg, Un.kept kp, ⟨m, ?_, fun i y av e1 e2 e3 => ?_⟩, fun y c e => ?_, ?_, fun y c e => ?_, fun p hp => absurd (show p ∈ ([] : List (Addr × Obj)) ++ [] from hp) (by simp), I.hok.kept kp, by rw [wipe_length]; exact I.len⟩
  · show Heap.Ns _ ce.locals _
    rw [cL]
    exact hns
  · obtain ⟨e2, hne⟩ := wipe_some e2
    have e3 : Vis ce.scope y := e3
    rw [cS] at e3
    have no : ¬ (scope.names.lookup y = some .local ∨ scope.names.lookup y = some .cell) := fun hh => by
      have hm : y ∈ own.map (·.1) ∨ y ∉ X.N := by
        rcases hh with hh | hh
        · exact ok.own _ (PySem.mem_of_lookup hh) (.inl rfl)
        · exact ok.own _ (PySem.mem_of_lookup hh) (.inr rfl)
      rcases hm with e' | e'
      · obtain ⟨p, hp, hpy⟩ := List.mem_map.mp e'
        have e3 := ok.ix p hp
        have : p.1 = y := hpy
        rw [this] at e3
        exact hne (List.mem_map.mpr ⟨p, hp, nodup_ix hN e3 e1⟩)
      · exact e' (List.mem_of_getElem? e1)
    have hfr : scope.names.lookup y = some .free := by
      rcases e3 with e3 | e3 | e3
      · exact absurd (.inl e3) no
      · exact absurd (.inr e3) no
      · exact e3
    obtain ⟨m, hn, hl⟩ := I.loc
    have hvis : Vis X.env.scope y := (ok.free _ (PySem.mem_of_lookup hfr) rfl).elim (fun k => .inr (.inl k)) (fun k => .inr (.inr k))
    obtain ⟨w, r, q⟩ := hl i y av e1 e2 hvis
    refine ⟨w, r, .inr ⟨.inr (by show ce.scope.names.lookup y = _; rw [cS]; exact hfr), ?_⟩⟩
    obtain ⟨c, h1, h2⟩ := look hfr
    rcases q with ⟨k, _⟩ | ⟨_, c', e', z⟩
    · have k : X.env.scope.names.lookup y = some .local := k
      rcases ok.free _ (PySem.mem_of_lookup hfr) rfl with k' | k' <;> rw [show X.env.scope.names.lookup y = _ from k'] at k <;> cases k
    · rw [h2] at e'; cases e'
      exact ⟨c, h1, z.keeps kp⟩
  · have e : ce.cells.lookup y = some c := e
    obtain ⟨w, z⟩ := I.cell y c (mem e).1
    exact ⟨w, z.keeps kp⟩
  · show H ce.locals = none
    rw [cL]; exact I.hok.fresh (Nat.le_refl _)
  · have e : ce.cells.lookup y = some c := e
    exact I.freeC y c (mem e).1
end

/-! ### the frame between two turns -/
/-- what the consumer may do while the generator sleeps; S: its own objects -/
structure Kp (S : List Addr) (s s' : Shared) : Prop where
  os : s'.os = s.os
  bare : AllBare s'.gens
  gsz : s.gens.size ≤ s'.gens.size
  keep : ∀ b o, b ∉ S → s.heap.get? b = some o → s'.heap.get? b = some o
  own : ∀ b ∈ S, ∀ o, s.heap.get? b = some o → ∃ o', s'.heap.get? b = some o' ∧ ∀ v, o'.data ≠ .cell v
theorem Kp.refl {S : List Addr} {s : Shared} (h : AllBare s.gens) (hS : ∀ b ∈ S, ∀ o, s.heap.get? b = some o → ∀ v, o.data ≠ .cell v) : Kp S s s := ⟨rfl, h, Nat.le_refl _, fun _ _ _ e => e, fun b hb o e => ⟨o, e, hS b hb o e⟩⟩

structure SApart (Xg : Cx) (S : List Addr) (a : Addr) (fp : List Addr) : Prop where
  size : ∀ b ∈ S, Xg.s_0.heap.objs.size ≤ b
  loc : ∀ b ∈ S, b ≠ Xg.env.locals
  cell : ∀ b ∈ S, ∀ x c, Xg.env.cells.lookup x = some c → c ≠ b
  gen : ∀ b ∈ S, b ≠ a
  fp : ∀ b ∈ S, b ∉ fp

def GSt (Xg : Cx) (S : List Addr) (a : Addr) (go : Obj) (fp : List Addr) (tn : Nat → Heap → Prop) (Gd : Nat → Hp → Prop) (σ : L2.St) (i : Nat) (s : Shared) : Prop :=
  ∃ H pl, pl.map (·.1) = S ∧ Inv Xg ((a, go) :: pl) σ H s ∧ tn i s.heap ∧ (∀ b ∈ fp, H b = none) ∧ Gd i H
def GEd (Xg : Cx) (S : List Addr) (a : Addr) (go : Obj) (Gd : Nat → Hp → Prop) (σ : L2.St) (n : Nat) (s : Shared) : Prop :=
  ∃ H pl, pl.map (·.1) = S ∧ Inv Xg ((a, go) :: pl) σ H s ∧ Gd n H

theorem inv_kp {Xg : Cx} {S : List Addr} {a : Addr} {go : Obj} {fp : List Addr} {pl : List (Addr × Obj)} {σ : L2.St} {H : Hp} {s s' : Shared} (hpn : Xg.pn = []) (ap : SApart Xg S a fp)
    (hpl : pl.map (·.1) = S) (I : Inv Xg ((a, go) :: pl) σ H s) (k : Kp S s s') : ∃ pl', pl'.map (·.1) = S ∧ Inv Xg ((a, go) :: pl') σ H s' := by
  have pin : ∀ p ∈ (a, go) :: pl, s.heap.get? p.1 = some p.2 ∧ H p.1 = none ∧ p.1 ≠ Xg.env.locals ∧ p.1 ∉ Xg.fs ∧ ∀ v, p.2.data ≠ .cell v := fun p hp => I.pin p (List.mem_append_right _ hp)
  have I0 : Inv Xg [(a, go)] σ H s := I.pins_of fun p hp => pin p (by rw [List.mem_singleton.mp hp]; exact List.mem_cons_self)
  have hS : ∀ b ∈ S, ∃ o, (b, o) ∈ pl := fun b hb => by
    rw [← hpl] at hb
    obtain ⟨p, hp, e⟩ := List.mem_map.mp hb
    exact ⟨p.2, by rw [← e]; exact hp⟩
  have nS : ∀ b ∈ S, H b = none := fun b hb => by
    obtain ⟨o, ho⟩ := hS b hb
    exact (pin _ (List.mem_cons_of_mem _ ho)).2.1
  have nt : ∀ b u, H b = some u → b ∉ S := fun b u q hb => by
    rw [nS b hb] at q
    cases q
  obtain ⟨z1, z2, _, z3, z4⟩ := k
  obtain ⟨hh, g, d, t, o⟩ := s'
  have ho : o = s.os := z1
  subst ho
  have J : Inv Xg [(a, go)] σ H { s with heap := hh, gens := g, drawn := d, toks := t } := by
    refine I0.step (g' := g) (t' := t) (d' := d) (ch := S) (fun b hb => ?_)
      (fun b ob _ _ hc q _ => z3 b ob hc q) (fun b ob _ _ hc q _ => ⟨ob.slots, z3 b ob hc q⟩) (fun _ _ _ _ n => n) (fun b ob hc q => ⟨ob, z3 b ob hc q⟩)
      (fun _ _ q => q) (fun _ _ _ q => q) (fun b ps q => ⟨#[], by rw [q]; simp⟩) (fun m hm => ?_) (fun b u q => ?_) z2
    · refine ⟨.inr (ap.size b hb), ap.loc b hb, fun x c e => ap.cell b hb x c e, fun p hp => ?_⟩
      rw [hpn] at hp
      have hp : p ∈ [(a, go)] := hp
      rw [List.mem_singleton.mp hp]
      exact fun e => ap.gen b hb e.symm
    · obtain ⟨ob, es, ep, ho, r⟩ := hm
      exact ⟨ob, es, ep, z3 _ ob (fun hb => ap.loc _ hb rfl) ho, r⟩
    · refine (I0.hok b u q).stay (fun c v hc y => z3 c v ?_ y) (fun _ y => y) fun _ _ y => y
      rcases hc with y | y
      · rw [y]; exact nt b u q
      · exact nt c _ y
  have ex : ∀ pl : List (Addr × Obj), (∀ p ∈ pl, p.1 ∈ S ∧ s.heap.get? p.1 = some p.2) → ∃ pl' : List (Addr × Obj), pl'.map (·.1) = pl.map (·.1) ∧ ∀ p ∈ pl', p.1 ∈ S ∧ hh.get? p.1 = some p.2 ∧ ∀ v, p.2.data ≠ .cell v := fun pl => by
    induction pl with
    | nil => exact fun _ => ⟨[], rfl, fun p hp => by cases hp⟩
    | cons p r ih =>
      intro h
      obtain ⟨r', e1, e2⟩ := ih fun q hq => h q (List.mem_cons_of_mem _ hq)
      obtain ⟨hp1, hp2⟩ := h p List.mem_cons_self
      obtain ⟨o', h1, h2⟩ := z4 p.1 hp1 p.2 hp2
      refine ⟨(p.1, o') :: r', by rw [List.map_cons, List.map_cons, e1], fun q hq => ?_⟩
      rcases List.mem_cons.mp hq with e | hq
      · rw [e]
        exact ⟨hp1, h1, h2⟩
      · exact e2 q hq
  obtain ⟨pl', e1, e2⟩ := ex pl fun p hp => ⟨by rw [← hpl]; exact List.mem_map.mpr ⟨p, hp, rfl⟩, (pin p (List.mem_cons_of_mem _ hp)).1⟩
  refine ⟨pl', e1.trans hpl, J.pins_of fun p hp => ?_⟩
  rcases List.mem_cons.mp hp with e | hp
  · rw [e]
    exact J.pin (a, go) (List.mem_append_right _ List.mem_cons_self)
  · obtain ⟨h1, h2, h3⟩ := e2 p hp
    obtain ⟨o, ho⟩ := hS _ h1
    obtain ⟨_, _, _, y, _⟩ := pin _ (List.mem_cons_of_mem _ ho)
    exact ⟨h2, nS _ h1, ap.loc _ h1, y, h3⟩

theorem GSt.kp {Xg : Cx} {S : List Addr} {a : Addr} {go : Obj} {fp : List Addr} {tn : Nat → Heap → Prop} {Gd : Nat → Hp → Prop} {σ : L2.St} {i : Nat} {s s' : Shared} {P : Program} {w : World} {K : PySem.W.Frag} {tg : Expr} {J : It} {it : Addr}
    (T : Turn P w K tg J fp it tn) (hpn : Xg.pn = []) (ap : SApart Xg S a fp) (h : GSt Xg S a go fp tn Gd σ i s) (k : Kp S s s') : GSt Xg S a go fp tn Gd σ i s' := by
  obtain ⟨H, pl, e, I, st, nf, gd⟩ := h
  obtain ⟨pl', e', I'⟩ := inv_kp hpn ap e I k
  exact ⟨H, pl', e', I', T.keep _ _ _ st fun b hb o q => k.keep b o (fun hs => ap.fp b hs hb) q, nf, gd⟩

/-- the turns: tests, values; Gd: what holds of the heap at each -/
structure TurnsOk (J : It) (g : TG) (tt : TT) (te : TE) (vs : List Nat) (σw : L2.St) (n : Nat) (pz : Nat → Bool) (yv : Nat → V) (Gd : Nat → Hp → Prop) : Prop where
  turn : ∀ i H, i < n → Gd i H → J.go i H ∧ ∀ x H', J.yld i H x H' → g x σw H' fun σ2 H2 => wipe σ2 vs = σw ∧ tt σ2 H2 fun b H3 => b = pz i ∧ (b = true → te σ2 H3 fun y H4 => y = yv i ∧ Gd (i + 1) H4) ∧ (b = false → Gd (i + 1) H3)
  stop : ∀ H, Gd n H → J.stop n H

/-- the consumer's objects stand as they stood -/
def SameS (S : List Addr) (s s' : Shared) : Prop := ∀ b ∈ S, ∀ o, s.heap.get? b = some o → s'.heap.get? b = some o
theorem SameS.pins {Xg : Cx} {S : List Addr} {a : Addr} {go : Obj} {pl r : List (Addr × Obj)} {σ σ' : L2.St} {H H' : Hp} {s₀ s s' : Shared} (h : SameS S s₀ s) (epl : pl.map (·.1) = S) (I : Inv Xg ((a, go) :: pl) σ H s) (I' : Inv Xg (((a, go) :: pl) ++ r) σ' H' s') : SameS S s₀ s' := fun b hb o e => by
  have e1 := h b hb o e
  rw [← epl] at hb
  obtain ⟨p, hp, ep⟩ := List.mem_map.mp hb
  have h1 := (I.pin p (List.mem_append_right _ (List.mem_cons_of_mem _ hp))).1
  have h2 := (I'.pin p (List.mem_append_right _ (List.mem_append_left _ (List.mem_cons_of_mem _ hp)))).1
  rw [ep, e1] at h1
  rw [ep] at h2
  exact h2.trans h1.symm
def gR (Xg : Cx) (S : List Addr) (a : Addr) (go : Obj) (Gd : Nat → Hp → Prop) (σ : L2.St) (n₀ g : Nat) : Nat → Shared → Shared → Prop := fun n s₀ s₁ => n = 0 ∧ g < s₁.gens.size ∧ SameS S s₀ s₁ ∧ GEd Xg S a go Gd σ n₀ s₁
def gY (Xg : Cx) (S : List Addr) (a : Addr) (go : Obj) (fp : List Addr) (tn : Nat → Heap → Prop) (Gd : Nat → Hp → Prop) (σ : L2.St) (n₀ g : Nat) (pz : Nat → Bool) (yv : Nat → V) : Protocol := fun m s₀ v s kap =>
  (∃ i, (passing pz n₀ 0)[(passing pz n₀ 0).length - 1 - m]? = some i ∧ RelV (yv i) v ∧ GSt Xg S a go fp tn Gd σ (i + 1) s) ∧ g < s.gens.size ∧ SameS S s₀ s ∧ ∀ s'', Kp S s s'' → kap (.send .none) s''

theorem seg_gl {Xg : Cx} {A : Around} {elt tg iter : Expr} {ifs : List Expr} {scope : Scope} {pos : Pos} {it a : Addr} {fp : List Addr} {tn : Nat → Heap → Prop} {J : It} {go : Obj} {S : List Addr} {g : Nat} {gt : TG} {tt : TT} {te : TE} {vs : List Nat} {σw : L2.St} {n₀ : Nat} {pz : Nat → Bool} {yv : Nat → V} {Gd : Nat → Hp → Prop}
    (hA : Xg.A = A.over (.compLoop (.GeneratorExp elt [⟨tg, iter, ifs, 0⟩] scope pos) 0 (.ref it) .none Xg.env) []) (hc : Xg.calm = true) (hco : Xg.env.scope.isCoroutine = false) (hpn : Xg.pn = []) (hex : Xg.ex = fp) (hxe : Xg.xe = fun _ _ => False)
    (T : Turn Xg.prog Xg.w Xg.K tg J fp it tn) (ap : SApart Xg S a fp) (haf : a ∉ fp) (hSf : ∀ b ∈ S, b ∉ fp) (pg : PG Xg tg gt) (pt : PTs Xg ifs tt) (pe : PE Xg elt te) (TO : TurnsOk J gt tt te vs σw n₀ pz yv Gd) :
    ∀ (k i : Nat) (s₀ s : Shared), n₀ - i = k → i ≤ n₀ → g < s.gens.size → SameS S s₀ s → GSt Xg S a go fp tn Gd σw i s →
      Seg (model Xg.prog Xg.w) A (fun n s₀ r s₁ => r = .ok .next ∧ gR Xg S a go Gd σw n₀ g n s₀ s₁) (gY Xg S a go fp tn Gd σw n₀ g pz yv) (passing pz n₀ i).length s₀
        (.compLoop (.GeneratorExp elt [⟨tg, iter, ifs, 0⟩] scope pos) 0 (.ref it) .none Xg.env)
        ((model Xg.prog Xg.w).den (.compLoop (.GeneratorExp elt [⟨tg, iter, ifs, 0⟩] scope pos) 0 (.ref it) .none Xg.env)) [] s := by
  have stat : ∀ {σ' : L2.St} {H' : Hp} {s' : Shared} {pl : List (Addr × Obj)}, pl.map (·.1) = S → Inv Xg ((a, go) :: pl) σ' H' s' → (∀ b ∈ fp, H' b = none) → ∀ b ∈ fp, FpOk Xg ((a, go) :: pl) H' b := fun {σ' H' s' pl} epl I' hn b hb => by
    have hbx : b ∈ Xg.ex := by rw [hex]; exact hb
    refine ⟨hn b hb, (I'.ok.exf b hbx).1, I'.ok.exfs b hbx, .inl hbx, fun x c e => (I'.ok.exf b hbx).2 x c e, fun p hp => ?_⟩
    rw [hpn] at hp
    rcases List.mem_cons.mp (show p ∈ (a, go) :: pl from hp) with e | hp
    · rw [e]
      exact fun z => haf (by rw [show a = b from z]; exact hb)
    · exact fun z => hSf p.1 (by rw [← epl]; exact List.mem_map.mpr ⟨p, hp, rfl⟩) (by rw [z]; exact hb)
  intro k
  induction k with
  | zero =>
    intro i s₀ s hk hi hgs hss hst
    have hin : i = n₀ := by omega
    subst hin
    obtain ⟨H, pl, epl, I, st, nf, gd⟩ := hst
    show Seg _ A _ _ _ s₀ _ ((compTurn (.GeneratorExp elt [⟨tg, iter, ifs, 0⟩] scope pos) 0 (.ref it) .none Xg.env).onRaise (leaving Xg.env)) [] s
    rw [compTurn_gen, Sem.onRaise_eq_wrap]
    refine seg_bind_wrap (wpAny_standAt ?_)
    refine seg_bind_wrap ?_
    rw [← hA]
    have td := T.done Xg rfl rfl rfl hc i _ s _ H (fun _ _ => False) I (stat epl I nf) st (TO.stop H gd)
    refine GenW.wpAny_gsz (Nat.succ_le_of_lt hgs) (thnF td fun r s6 ⟨hr, I6⟩ hg6 => ?_)
    subst hr
    exact seg_end (.ok .next) ⟨rfl, by rw [passing_end]; rfl, hg6, hss.pins (r := []) epl I (by rw [List.append_nil]; exact I6), H, pl, epl, I6, gd⟩
  | succ k ih =>
    intro i s₀ s hk hi hgs hss hst
    have hlt : i < n₀ := by omega
    obtain ⟨H, pl, epl, I, st, nf, gd⟩ := hst
    obtain ⟨jgo, step⟩ := TO.turn i H hlt gd
    show Seg _ A _ _ _ s₀ _ ((compTurn (.GeneratorExp elt [⟨tg, iter, ifs, 0⟩] scope pos) 0 (.ref it) .none Xg.env).onRaise (leaving Xg.env)) [] s
    rw [compTurn_gen, Sem.onRaise_eq_wrap]
    refine seg_bind_wrap (wpAny_standAt ?_)
    refine seg_bind_wrap ?_
    rw [← hA]
    have ti := T.item Xg rfl rfl rfl hc i _ s _ H (fun _ _ => False) I (stat epl I nf) st jgo
    refine GenW.wpAny_gsz (Nat.succ_le_of_lt hgs) (thnF ti fun r s6 ⟨u, hr, h6⟩ hg6 => ?_)
    subst hr
    refine seg_bind_wrap ?_
    rw [← hA]
    refine GenW.wpAny_gsz hg6 (thnF h6 fun _ s7 ⟨x, H7, I7, r7, y7, st7, n7⟩ hg7 => ?_)
    have I7' := I7.pinned (stat epl I7 n7) (T.obj _ _ st7)
    refine seg_bind_wrap ?_
    rw [← hA]
    have p1 := pg.run _ s7 _ H7 x u _ I7' r7 (step x H7 y7)
    rw [hxe] at p1
    refine GenW.wpAny_gsz hg7 (thnF p1 fun _ s8 ⟨σ8, H8, I8, hw8, q8⟩ hg8 => ?_)
    refine seg_bind_wrap ?_
    rw [← hA]
    have p2 := pt.run _ s8 σ8 H8 _ I8 q8
    rw [hxe] at p2
    refine GenW.wpAny_gsz hg8 (thnF p2 fun b s9 ⟨H9, I9, hb9, q9, q9'⟩ hg9 => ?_)
    have hwl : σw.length = σ8.length := by rw [← hw8, wipe_length]
    have fin : ∀ {s' : Shared} {H' : Hp}, Inv Xg (((a, go) :: pl) ++ pinsAt fp s7.heap) σ8 H' s' → Gd (i + 1) H' → GSt Xg S a go fp tn Gd σw (i + 1) s' := fun {s' H'} I' nx => by
      have pin' : ∀ b ∈ fp, ∀ o, s7.heap.get? b = some o → s'.heap.get? b = some o ∧ H' b = none := fun b hb o e =>
        let z := I'.pin (b, o) (List.mem_append_right _ (List.mem_append_right _ (mem_pinsAt hb e)))
        ⟨z.1, z.2.1⟩
      refine ⟨H', pl, epl, (I'.unpinned).weak hwl (fun j v e => ?_), T.keep _ _ _ st7 fun b hb o e => (pin' b hb o e).1, fun b hb => ?_, nx⟩
      · rw [← hw8] at e
        exact (wipe_some e).1
      · obtain ⟨o, e, _⟩ := T.obj _ _ st7 b hb
        exact (pin' b hb o e).2
    cases b with
    | false =>
      rw [passing_false hlt hb9.symm]
      simp only [Bool.false_eq_true, if_false]
      exact seg_again rfl (ih (i + 1) s₀ _ (by omega) hlt hg9 (hss.pins epl I I9) (fin I9 (q9' rfl)))
    | true =>
      rw [passing_true hlt hb9.symm, List.length_cons]
      simp only [if_true]
      have hy : ∀ v, yieldOut Xg.env v = yieldValue v := fun v => by simp only [yieldOut, hco, Bool.false_eq_true, if_false]
      simp only [hy]
      rw [Sem.bind_eq_wrap', Sem.bind_eq_wrap', Sem.wrap_wrap, Sem.wrap_wrap]
      refine seg_wrap ?_
      rw [← hA]
      have p3 := pe.run _ s9 σ8 H9 _ I9 (q9 rfl)
      rw [hxe] at p3
      refine GenW.wpAny_gsz hg9 (thnF p3 fun y s10 ⟨yV, H10, I10, ry, ey, gd10⟩ hg10 => ?_)
      subst ey
      have st10 := fin I10 gd10
      refine seg_at (seg_yield rfl rfl rfl ⟨⟨i, passing_here hlt hb9.symm, ry, st10⟩, hg10, hss.pins epl I I10, fun s'' hal => ?_⟩)
      exact seg_again rfl (ih (i + 1) s'' s'' (by omega) hlt (Nat.lt_of_lt_of_le hg10 hal.gsz) (fun _ _ _ e => e) (st10.kp T hpn ap hal))
end GxI
set_option Elab.async false
set_option linter.all false
set_option maxRecDepth 100000
set_option maxHeartbeats 2000000
namespace GxI
open PySem PySem.Spec PyProof.Rows L2

/-- the generator sleeps, j items are out -/
structure GAt (Xg : Cx) (A0 : Around) (S : List Addr) (a : Addr) (go : Obj) (fp : List Addr) (tn : Nat → Heap → Prop) (Gd : Nat → Hp → Prop) (σ : L2.St) (n₀ g : Nat) (pz : Nat → Bool) (yv : Nat → V) (j : Nat) (s : Shared) : Prop where
  cur : ∃ i, GEd Xg S a go Gd σ i s
  gsz : g < s.gens.size
  gs : ∃ gs, s.gens[g]? = some gs ∧ ∀ s'', Kp S s s'' → gs.Goes (model Xg.prog Xg.w) A0.in1 (fun n s₀ r s₁ => r = .ok .next ∧ gR Xg S a go Gd σ n₀ g n s₀ s₁) (gY Xg S a go fp tn Gd σ n₀ g pz yv) ((passing pz n₀ 0).length - j) (.send .none) s''

section
variable {Xg : Cx} {A0 : Around} {S : List Addr} {a : Addr} {go : Obj} {fp : List Addr} {tn : Nat → Heap → Prop} {Gd : Nat → Hp → Prop} {σ : L2.St} {n₀ g : Nat} {pz : Nat → Bool} {yv : Nat → V} {j : Nat} {s s' : Shared}

theorem Kp.trans {S : List Addr} {s s1 s2 : Shared} (x : Kp S s s1) (y : Kp S s1 s2) : Kp S s s2 :=
  ⟨y.os.trans x.os, y.bare, Nat.le_trans x.gsz y.gsz, fun b o hb e => y.keep b o hb (x.keep b o hb e), fun b hb o e => by
    obtain ⟨o', e', _⟩ := x.own b hb o e
    exact y.own b hb o' e'⟩
theorem GEd.kp (hpn : Xg.pn = []) (ap : SApart Xg S a fp) {i : Nat} (h : GEd Xg S a go Gd σ i s) (k : Kp S s s') : GEd Xg S a go Gd σ i s' := by
  obtain ⟨H, pl, e, I, gd⟩ := h
  obtain ⟨pl', e', I'⟩ := inv_kp hpn ap e I k
  exact ⟨H, pl', e', I', gd⟩
theorem GSt.ed {i : Nat} (h : GSt Xg S a go fp tn Gd σ i s) : GEd Xg S a go Gd σ i s := by
  obtain ⟨H, pl, e, I, _, _, gd⟩ := h
  exact ⟨H, pl, e, I, gd⟩
theorem GEd.nocell {i : Nat} (h : GEd Xg S a go Gd σ i s) : ∀ b ∈ S, ∀ o, s.heap.get? b = some o → ∀ v, o.data ≠ .cell v := fun b hb o e v => by
  obtain ⟨H, pl, epl, I, _⟩ := h
  rw [← epl] at hb
  obtain ⟨p, hp, ep⟩ := List.mem_map.mp hb
  obtain ⟨h1, _, _, _, h2⟩ := I.pin p (List.mem_append_right _ (List.mem_cons_of_mem _ hp))
  rw [ep, e] at h1
  cases h1
  exact h2 v
theorem GEd.bare {i : Nat} (h : GEd Xg S a go Gd σ i s) : AllBare s.gens := by
  obtain ⟨H, pl, epl, I, _⟩ := h
  exact I.bare
theorem GEd.gen {i : Nat} (h : GEd Xg S a go Gd σ i s) : s.heap.get? a = some go := by
  obtain ⟨H, pl, epl, I, _⟩ := h
  exact (I.pin (a, go) (List.mem_append_right _ List.mem_cons_self)).1
theorem GEd.nolimit {i : Nat} (h : GEd Xg S a go Gd σ i s) : s.heap.NoLimit := by
  obtain ⟨H, pl, epl, I, _⟩ := h
  exact I.nolimit
/-- the consumer has done what it may -/
theorem GAt.kp (hpn : Xg.pn = []) (ap : SApart Xg S a fp) (h : GAt Xg A0 S a go fp tn Gd σ n₀ g pz yv j s) (k : Kp S s s') (hg : s'.gens = s.gens) : GAt Xg A0 S a go fp tn Gd σ n₀ g pz yv j s' := by
  obtain ⟨⟨i, c⟩, z, gs, e, q⟩ := h
  exact ⟨⟨i, c.kp hpn ap k⟩, by rw [hg]; exact z, gs, by rw [hg]; exact e, fun s'' k' => q s'' (k.trans k')⟩
theorem kp_setGen {i : Nat} {x : GenState} (c : GEd Xg S a go Gd σ i s) (hx : x.bare = true) : Kp S s (s.setGen g x) :=
  ⟨rfl, L2.allBare_setGen c.bare hx, by rw [GenW.setGen_size]; exact Nat.le_refl _, fun _ _ _ e => e, fun b hb o e => ⟨o, e, c.nocell b hb o e⟩⟩
theorem kp_heap {i : Nat} {h' : Heap} {tk : Nat} (c : GEd Xg S a go Gd σ i s) (k : ∀ b o, s.heap.get? b = some o → h'.get? b = some o) : Kp S s { s with heap := h', toks := tk } :=
  ⟨rfl, c.bare, Nat.le_refl _, fun b o _ e => k b o e, fun b hb o e => ⟨o, k b o e, c.nocell b hb o e⟩⟩

variable {Q : Option Value → Shared → Prop} {E : Value → Shared → Prop}
theorem GAt.item (hpn : Xg.pn = []) (ap : SApart Xg S a fp) (hgo : ∀ h : Heap, h.get? a = some go → h.IsGen a g) (hh : A0.handled = none) (hroom : A0.depth < recursionLimit) (hj : j < (passing pz n₀ 0).length) (h : GAt Xg A0 S a go fp tn Gd σ n₀ g pz yv j s)
    (hQ : ∀ v s' i, (passing pz n₀ 0)[j]? = some i → RelV (yv i) v → SameS S s s' → GAt Xg A0 S a go fp tn Gd σ n₀ g pz yv (j + 1) s' → Q (some v) s') : wpAny (model Xg.prog Xg.w) A0 (pyNext (.ref a)) Q E s := by
  obtain ⟨⟨i0, c⟩, z, gs, e, q⟩ := h
  obtain ⟨m, hm⟩ : ∃ m, (passing pz n₀ 0).length - j = m + 1 := ⟨(passing pz n₀ 0).length - j - 1, by omega⟩
  have q1 := q _ (kp_setGen (g := g) (x := .running) c rfl)
  rw [hm] at q1
  refine wpAny_pyNext_genexpQ (P := gR Xg S a go Gd σ n₀ g) hh c.nolimit hroom (hgo _ c.gen) e q1 (fun v s₁ gs' hb hv => ?_) (fun s₁ hp h' hk => ?_)
  · obtain ⟨⟨i, hi, hF, hst⟩, hgz, hss, hkap⟩ := hv
    have hidx : (passing pz n₀ 0).length - 1 - (m + 1 - 1) = j := by omega
    rw [hidx] at hi
    refine hQ v _ i hi hF hss ⟨⟨i + 1, hst.ed.kp hpn ap (kp_setGen hst.ed hb)⟩, by rw [GenW.setGen_size]; exact hgz, gs', L2.setGen_at hgz, fun s'' k => ?_⟩
    have e2 : (passing pz n₀ 0).length - (j + 1) = m := by omega
    rw [e2]
    exact hkap s'' ((kp_setGen hst.ed hb).trans k)
  · exact absurd hp.1 (Nat.succ_ne_zero m)

theorem GAt.done (hpn : Xg.pn = []) (ap : SApart Xg S a fp) (hgo : ∀ h : Heap, h.get? a = some go → h.IsGen a g) (hh : A0.handled = none) (hroom : A0.depth < recursionLimit) (hj : j = (passing pz n₀ 0).length) (h : GAt Xg A0 S a go fp tn Gd σ n₀ g pz yv j s)
    (hQ : ∀ s', SameS S s s' → GEd Xg S a go Gd σ n₀ s' → Q none s') : wpAny (model Xg.prog Xg.w) A0 (pyNext (.ref a)) Q E s := by
  obtain ⟨⟨i0, c⟩, z, gs, e, q⟩ := h
  have q1 := q _ (kp_setGen (g := g) (x := .running) c rfl)
  rw [show (passing pz n₀ 0).length - j = 0 by omega] at q1
  refine wpAny_pyNext_genexpQ (P := gR Xg S a go Gd σ n₀ g) hh c.nolimit hroom (hgo _ c.gen) e q1 (fun v s₁ gs' hb hv => ?_) (fun s₁ hp h' hk => ?_)
  · obtain ⟨⟨i, hi, hF, hst⟩, hgz, _, hkap⟩ := hv
    exact False.elim (hkap s₁ (Kp.refl hst.ed.bare hst.ed.nocell))
  · obtain ⟨_, hgz, hss, ced⟩ := hp
    have k1 : Kp S s₁ (s₁.setGen g .finished) := kp_setGen ced rfl
    have c1 := ced.kp hpn ap k1
    exact hQ _ (fun b hb o e => hk b o (hss b hb o e)) (c1.kp hpn ap (kp_heap (tk := (s₁.setGen g .finished).toks) c1 hk))

theorem GAt.toks (hpn : Xg.pn = []) (ap : SApart Xg S a fp) (tk : Nat) (h : GAt Xg A0 S a go fp tn Gd σ n₀ g pz yv j s) : GAt Xg A0 S a go fp tn Gd σ n₀ g pz yv j { s with toks := tk } := by
  obtain ⟨⟨i0, c⟩, _⟩ := _root_.id h
  exact h.kp hpn ap (kp_heap c fun _ _ e => e) rfl
theorem GAt.ed (h : GAt Xg A0 S a go fp tn Gd σ n₀ g pz yv j s) : ∃ i, GEd Xg S a go Gd σ i s := h.cur
end

/-! ### any, all, sum -/
section
variable {Xg : Cx} {A : Around} {S : List Addr} {a : Addr} {go : Obj} {fp : List Addr} {tn : Nat → Heap → Prop} {Gd : Nat → Hp → Prop} {σ : L2.St} {n₀ g : Nat} {pz pb : Nat → Bool} {R : Result → Shared → Prop}

theorem drop_cons {α : Type} {l : List α} {j : Nat} {x : α} (h : l[j]? = some x) : l.drop j = x :: l.drop (j + 1) := by
  obtain ⟨hj, e⟩ := List.getElem?_eq_some_iff.mp h
  rw [List.drop_eq_getElem_cons hj, e]

theorem any_loopG (hpn : Xg.pn = []) (ap : SApart Xg S a fp) (hgo : ∀ h : Heap, h.get? a = some go → h.IsGen a g) (hh : A.in1.handled = none) (hroom : A.in1.depth < recursionLimit) :
    ∀ (k j : Nat) (s : Shared), (passing pz n₀ 0).length - j = k → j ≤ (passing pz n₀ 0).length → GAt Xg A.in1 S a go fp tn Gd σ n₀ g pz (fun i => .bl (pb i)) j s →
    (∀ s' i, GEd Xg S a go Gd σ i s' → R (.ok (.ret (.bool (((passing pz n₀ 0).drop j).any pb)))) s') → codeAny (model Xg.prog Xg.w) A (.builtin "any.loop" ⟨[.ref a], []⟩) R s := by
  intro k
  induction k with
  | zero =>
    intro j s hk hj h hR
    have hjn : j = (passing pz n₀ 0).length := by omega
    refine codeAny_builtin F.entry_any_loop ?_
    rw [Around.under_plainId F.plain_any_loop _]
    show wpAny _ A.in1 (pyNext (.ref a) >>= _) _ _ s
    refine wpAny_bind (h.done hpn ap hgo hh hroom hjn fun s' _ c => ?_)
    refine wpAny_bind (wpAny_rule (wpAny_pure ?_))
    have := hR s' _ c
    rw [List.drop_of_length_le (by omega)] at this
    exact this
  | succ k ih =>
    intro j s hk hj h hR
    have hlt : j < (passing pz n₀ 0).length := by omega
    refine codeAny_builtin F.entry_any_loop ?_
    rw [Around.under_plainId F.plain_any_loop _]
    show wpAny _ A.in1 (pyNext (.ref a) >>= _) _ _ s
    refine wpAny_bind (h.item hpn ap hgo hh hroom hlt fun v s' i hi rv _ h' => ?_)
    have rv : v = .bool (pb i) := rv
    subst rv
    have hd := drop_cons hi
    refine wpAny_bind (wpAny_holding (wpAny_truthy_bool ?_))
    refine wpAny_bind (wpAny_letGo ?_)
    cases hb : pb i with
    | false =>
      simp only [Bool.false_eq_true, if_false]
      refine wpAny_pure ⟨plainId_quiet F.plain_any_loop _, ih (j + 1) _ (by omega) hlt h' fun s'' i' hm' => ?_⟩
      have := hR s'' i' hm'
      rw [hd, List.any_cons, hb, Bool.false_or] at this
      exact this
    | true =>
      simp only [if_true]
      refine wpAny_bind (wpAny_rule (wpAny_pure ?_))
      obtain ⟨i', c⟩ := h'.cur
      have := hR _ i' c
      rw [hd, List.any_cons, hb, Bool.true_or] at this
      exact this

theorem all_loopG (hpn : Xg.pn = []) (ap : SApart Xg S a fp) (hgo : ∀ h : Heap, h.get? a = some go → h.IsGen a g) (hh : A.in1.handled = none) (hroom : A.in1.depth < recursionLimit) :
    ∀ (k j : Nat) (s : Shared), (passing pz n₀ 0).length - j = k → j ≤ (passing pz n₀ 0).length → GAt Xg A.in1 S a go fp tn Gd σ n₀ g pz (fun i => .bl (pb i)) j s →
    (∀ s' i, GEd Xg S a go Gd σ i s' → R (.ok (.ret (.bool (((passing pz n₀ 0).drop j).all pb)))) s') → codeAny (model Xg.prog Xg.w) A (.builtin "all.loop" ⟨[.ref a], []⟩) R s := by
  intro k
  induction k with
  | zero =>
    intro j s hk hj h hR
    have hjn : j = (passing pz n₀ 0).length := by omega
    refine codeAny_builtin F.entry_all_loop ?_
    rw [Around.under_plainId F.plain_all_loop _]
    show wpAny _ A.in1 (pyNext (.ref a) >>= _) _ _ s
    refine wpAny_bind (h.done hpn ap hgo hh hroom hjn fun s' _ c => ?_)
    refine wpAny_bind (wpAny_rule (wpAny_pure ?_))
    have := hR s' _ c
    rw [List.drop_of_length_le (by omega)] at this
    exact this
  | succ k ih =>
    intro j s hk hj h hR
    have hlt : j < (passing pz n₀ 0).length := by omega
    refine codeAny_builtin F.entry_all_loop ?_
    rw [Around.under_plainId F.plain_all_loop _]
    show wpAny _ A.in1 (pyNext (.ref a) >>= _) _ _ s
    refine wpAny_bind (h.item hpn ap hgo hh hroom hlt fun v s' i hi rv _ h' => ?_)
    have rv : v = .bool (pb i) := rv
    subst rv
    have hd := drop_cons hi
    refine wpAny_bind (wpAny_holding (wpAny_truthy_bool ?_))
    refine wpAny_bind (wpAny_letGo ?_)
    cases hb : pb i with
    | true =>
      simp only [if_true]
      refine wpAny_pure ⟨plainId_quiet F.plain_all_loop _, ih (j + 1) _ (by omega) hlt h' fun s'' i' hm' => ?_⟩
      have := hR s'' i' hm'
      rw [hd, List.all_cons, hb, Bool.true_and] at this
      exact this
    | false =>
      simp only [Bool.false_eq_true, if_false]
      refine wpAny_bind (wpAny_rule (wpAny_pure ?_))
      obtain ⟨i', c⟩ := h'.cur
      have := hR _ i' c
      rw [hd, List.all_cons, hb, Bool.false_and] at this
      exact this

variable {val : Nat → Int} {SA : Addr}
theorem sum_drop {l : List Nat} {j i : Nat} (val : Nat → Int) (h : l[j]? = some i) : ((l.take (j + 1)).map val).sum = ((l.take j).map val).sum + val i := by
  rw [List.take_add_one, h]
  simp

theorem kp_upd {i : Nat} {s : Shared} {its : Array Value} {c : Nat} {f : Array Value → Array Value} {tk : Nat} (ed : GEd Xg [SA] a go Gd σ i s) (hS : s.heap.get? SA = some { cls := .type "list", dict := none, data := .seq its c, slots := #[] }) :
    Kp [SA] s { s with heap := s.heap.update SA (Obj.mapSeq f), toks := tk } :=
  ⟨rfl, ed.bare, Nat.le_refl _, fun b o hb e => (Heap.get?_update_other _ _ (fun h : SA = b => hb (by rw [h]; exact List.mem_singleton.mpr rfl))).trans e, fun b hb o e => by
    rw [List.mem_singleton.mp hb]
    exact ⟨_, Heap.get?_update_self _ hS rfl, fun v z => by cases z⟩⟩

theorem sum_loopG (hpn : Xg.pn = []) (ap : SApart Xg [SA] a fp) (hgo : ∀ h : Heap, h.get? a = some go → h.IsGen a g) (hh : A.in1.handled = none) (hroom : A.in1.depth < recursionLimit) :
    ∀ (k j : Nat) (s : Shared) (tA : Tok) (c : Nat) (stage : Int), (stage = 0 ∨ stage = 2) → (passing pz n₀ 0).length - j = k → j ≤ (passing pz n₀ 0).length → GAt Xg A.in1 [SA] a go fp tn Gd σ n₀ g pz (fun i => .int (val i)) j s →
    s.heap.get? SA = some { cls := .type "list", dict := none, data := .seq #[.int (((passing pz n₀ 0).take j).map val).sum tA] c, slots := #[] } →
    (∀ s' i t', GEd Xg [SA] a go Gd σ i s' → R (.ok (.ret (.int (((passing pz n₀ 0)).map val).sum t'))) s') → codeAny (model Xg.prog Xg.w) A (.builtin "sum.loop" ⟨[.ref a, .ref SA, rawInt stage, rawInt 0], []⟩) R s := by
  intro k
  induction k with
  | zero =>
    intro j s tA c stage hstage hk hj h hS hR
    have hjn : j = (passing pz n₀ 0).length := by omega
    refine codeAny_builtin F.entry_sum_loop ?_
    rw [Around.under_plainId F.plain_sum_loop _]
    show wpAny _ A.in1 (seqItems? (.ref SA) >>= _) _ _ s
    refine wpAny_bind (wpAny_seqItems hS rfl ?_)
    show wpAny _ A.in1 (tryCatch (pyNext (.ref a)) _ >>= _) _ _ s
    refine wpAny_bind (wpAny_tryCatch (h.done hpn ap hgo hh hroom hjn fun s' _ c => ?_))
    have := hR s' _ tA c
    rw [hjn, List.take_length]
    exact wpAny_pure this
  | succ k ih =>
    intro j s tA c stage hstage hk hj h hS hR
    have hlt : j < (passing pz n₀ 0).length := by omega
    refine codeAny_builtin F.entry_sum_loop ?_
    rw [Around.under_plainId F.plain_sum_loop _]
    show wpAny _ A.in1 (seqItems? (.ref SA) >>= _) _ _ s
    refine wpAny_bind (wpAny_seqItems hS rfl ?_)
    show wpAny _ A.in1 (tryCatch (pyNext (.ref a)) _ >>= _) _ _ s
    refine wpAny_bind (wpAny_tryCatch (h.item hpn ap hgo hh hroom hlt fun v s' i hi rv hss h' => ?_))
    obtain ⟨t, rfl⟩ := _root_.id rv
    have hS' := hss SA (List.mem_singleton.mpr rfl) _ hS
    have esum := sum_drop val hi
    obtain ⟨i1, ed⟩ := h'.cur
    generalize hps : (((passing pz n₀ 0).take j).map val).sum = ps at hS hS' esum
    rcases hstage with rfl | rfl
    · show wpAny _ A.in1 (if (_ : Bool) = true then (mkInt (ps + val i) >>= _) else _) _ _ _
      split
      · refine wpAny_bind (wpAny_mkInt ?_)
        show wpAny _ A.in1 (updateSeq SA (fun _ => #[.int (ps + val i) s'.toks]) >>= _) _ _ _
        refine wpAny_bind ?_
        refine wpAny_updateSeq hS' rfl (wpAny_pure ⟨plainId_quiet F.plain_sum_loop _, ih (j + 1) _ _ _ 0 (Or.inl rfl) (by omega) hlt (h'.kp hpn ap (kp_upd ed hS') rfl) (by rw [esum]; exact Heap.get?_update_self _ hS' rfl) hR⟩)
      · refine wpAny_bind (wpAny_rule ?_)
        refine wpAny_bind (wpAny_attempt (wpAny_holding (PySem.P.add_int ?_)))
        show wpAny _ A.in1 (updateSeq SA (fun _ => #[.int (ps + val i) s'.toks]) >>= _) _ _ _
        refine wpAny_bind ?_
        refine wpAny_updateSeq hS' rfl ?_
        have hS2 := Heap.get?_update_self (Obj.mapSeq fun _ => #[Value.int (ps + val i) s'.toks]) hS' rfl
        have h2 := h'.kp hpn ap (kp_upd (f := fun _ => #[Value.int (ps + val i) s'.toks]) (tk := s'.toks + 1) ed hS') rfl
        obtain ⟨i2, ed2⟩ := h2.cur
        refine wpAny_bind (wpAny_letGo ?_)
        refine wpAny_bind ?_
        refine wpAny_updateSeq hS2 rfl (wpAny_pure ⟨plainId_quiet F.plain_sum_loop _, ih (j + 1) _ _ _ 2 (Or.inr rfl) (by omega) hlt (h2.kp hpn ap (kp_upd ed2 hS2) rfl) (by rw [esum]; exact Heap.get?_update_self _ hS2 rfl) hR⟩)
    · show wpAny _ A.in1 ((holding [Value.int (val i) t] (binaryOp .Add (.int ps tA) (.int (val i) t))).attempt >>= _) _ _ _
      refine wpAny_bind (wpAny_attempt (wpAny_holding (PySem.P.add_int ?_)))
      show wpAny _ A.in1 (updateSeq SA (fun _ => #[.int (ps + val i) s'.toks]) >>= _) _ _ _
      refine wpAny_bind ?_
      refine wpAny_updateSeq hS' rfl ?_
      have hS2 := Heap.get?_update_self (Obj.mapSeq fun _ => #[Value.int (ps + val i) s'.toks]) hS' rfl
      have h2 := h'.kp hpn ap (kp_upd (f := fun _ => #[Value.int (ps + val i) s'.toks]) (tk := s'.toks + 1) ed hS') rfl
      obtain ⟨i2, ed2⟩ := h2.cur
      refine wpAny_bind (wpAny_letGo ?_)
      refine wpAny_bind ?_
      refine wpAny_updateSeq hS2 rfl (wpAny_pure ⟨plainId_quiet F.plain_sum_loop _, ih (j + 1) _ _ _ 2 (Or.inr rfl) (by omega) hlt (h2.kp hpn ap (kp_upd ed2 hS2) rfl) (by rw [esum]; exact Heap.get?_update_self _ hS2 rfl) hR⟩)
end
end GxI
set_option Elab.async false
set_option linter.all false
set_option maxRecDepth 100000
set_option maxHeartbeats 2000000
namespace GxI
open PySem PySem.Spec PyProof.Rows L2

theorem nb1 {s4 s5 b : Nat} (e : s5 = s4 + 1 + 1) (h : s5 ≤ b) : s4 ≤ b := by omega
theorem nb1' {s4 s5 b : Nat} (e : s5 = s4 + 1 + 1) (h : s5 ≤ b) : s4 < b := by omega
theorem nb3 {s4 s5 b c : Nat} (e : s5 = s4 + 1 + 1) (h : s5 ≤ b) (hc : c < s4) : c ≠ b := by omega
theorem nb4 {s4 s5 b h' : Nat} (e : s5 = s4 + 1 + 1) (h : s5 ≤ b) (hc : h' = s4 + 1) : b ≠ h' := by omega
theorem nb5 {s4 h' : Nat} (hc : h' = s4 + 1) : ¬ h' < s4 := by omega
theorem nb6 {s4 h' : Nat} (hc : h' = s4 + 1) : s4 < h' := by omega
/-- a generator that has not begun -/
def MadeG (Xg : Cx) (A0 : Around) (a : Addr) (go : Obj) (fp : List Addr) (tn : Nat → Heap → Prop) (Gd : Nat → Hp → Prop) (σ : L2.St) (n₀ g : Nat) (pz : Nat → Bool) (yv : Nat → V) (s5 : Shared) : Prop :=
  ∀ (S : List Addr) (pl : List (Addr × Obj)) (s6 : Shared), pl.map (·.1) = S → s6.gens = s5.gens → s6.os = s5.os → (∀ b o, s5.heap.get? b = some o → s6.heap.get? b = some o) →
    (∀ p ∈ pl, s5.heap.objs.size ≤ p.1 ∧ s6.heap.get? p.1 = some p.2 ∧ ∀ v, p.2.data ≠ .cell v) → SApart Xg S a fp ∧ GAt Xg A0 S a go fp tn Gd σ n₀ g pz yv 0 s6

theorem seg_gstart {Xg : Cx} {A : Around} {elt tg iter : Expr} {ifs : List Expr} {scope : Scope} {pos : Pos} {it a : Addr} {fp : List Addr} {tn : Nat → Heap → Prop} {J : It} {go : Obj} {S : List Addr} {g : Nat} {gt : TG} {tt : TT} {te : TE} {vs : List Nat} {σw : L2.St} {n₀ : Nat} {pz : Nat → Bool} {yv : Nat → V} {Gd : Nat → Hp → Prop}
    (hA : Xg.A = A.over (.compLoop (.GeneratorExp elt [⟨tg, iter, ifs, 0⟩] scope pos) 0 (.ref it) .none Xg.env) []) (hc : Xg.calm = true) (hco : Xg.env.scope.isCoroutine = false) (hpn : Xg.pn = []) (hex : Xg.ex = fp) (hxe : Xg.xe = fun _ _ => False)
    (T : Turn Xg.prog Xg.w Xg.K tg J fp it tn) (ap : SApart Xg S a fp) (haf : a ∉ fp) (hSf : ∀ b ∈ S, b ∉ fp) (pg : PG Xg tg gt) (pt : PTs Xg ifs tt) (pe : PE Xg elt te) (TO : TurnsOk J gt tt te vs σw n₀ pz yv Gd)
    (s : Shared) (hgs : g < s.gens.size) (hst : GSt Xg S a go fp tn Gd σw 0 s) :
    Seg (model Xg.prog Xg.w) A (fun n s₀ r s₁ => r = .ok .next ∧ gR Xg S a go Gd σw n₀ g n s₀ s₁) (gY Xg S a go fp tn Gd σw n₀ g pz yv) (passing pz n₀ 0).length s
      (.compStart (.GeneratorExp elt [⟨tg, iter, ifs, 0⟩] scope pos) 0 (.ref it) .none Xg.env)
      ((model Xg.prog Xg.w).den (.compStart (.GeneratorExp elt [⟨tg, iter, ifs, 0⟩] scope pos) 0 (.ref it) .none Xg.env)) [] s := by
  have loop := seg_gl (g := g) (pos := pos) (scope := scope) hA hc hco hpn hex hxe T ap haf hSf pg pt pe TO n₀ 0 s s (Nat.sub_zero _) (Nat.zero_le _) hgs (fun _ _ _ e => e) hst
  obtain ⟨H, pl, epl, I, st, nf, gd⟩ := hst
  show Seg _ A _ _ _ s _ ((compStart (.GeneratorExp elt [⟨tg, iter, ifs, 0⟩] scope pos) 0 (.ref it) .none Xg.env).onRaise (leaving Xg.env)) [] s
  unfold compStart
  rw [Sem.onRaise_eq_wrap]
  show Seg _ A _ _ _ s _ ((ask >>= _).wrap _ _ _ _) [] s
  refine seg_bind_wrap (wpAny_askSetting ?_)
  split
  · exact seg_again rfl loop
  · first
      | exact seg_bind_wrap (wpAny_rule (seg_bind_wrap (wpAny_standAt (seg_bind_wrap (T.self _ 0 s _ _ st (seg_again rfl loop))))))
      | (refine seg_bind_wrap (wpAny_rule ?_); show Seg _ A _ _ _ s _ ((standAt iter.pos >>= _).wrap _ _ _ _) [] s; exact seg_bind_wrap (wpAny_standAt (seg_bind_wrap (T.self _ 0 s _ _ st (seg_again rfl loop)))))

abbrev ArdG (A : Around) (elt tg iter : Expr) (ifs : List Expr) (scope : Scope) (pos : Pos) (it : Addr) (cenv : Env) : Around := A.in1.in1.over (.compLoop (.GeneratorExp elt [⟨tg, iter, ifs, 0⟩] scope pos) 0 (.ref it) .none cenv) []

theorem ardG_room {k : Nat} {A : Around} {elt tg iter : Expr} {ifs : List Expr} {scope : Scope} {pos : Pos} {it : Addr} {cenv : Env} (hr : Room (k + 1) A) : Room k (ArdG A elt tg iter ifs scope pos it cenv) := by
  obtain ⟨h1, h2, h3⟩ := hr
  refine ⟨h1, ?_, ?_⟩
  · show A.depth + 0 + 1 + 3 * k + 5 < recursionLimit
    omega
  · show A.units + 1 + 1 + 0 + 3 + 16 * k + 200 < cLine
    omega

theorem ardG_handled {A : Around} {elt tg iter : Expr} {ifs : List Expr} {scope : Scope} {pos : Pos} {it : Addr} {cenv : Env} : (ArdG A elt tg iter ifs scope pos it cenv).handled = A.handled := rfl
theorem ardG_frames {A : Around} {elt tg iter : Expr} {ifs : List Expr} {scope : Scope} {pos : Pos} {it : Addr} {cenv : Env} {l : List Env} (h : A.frames = some l) : (ArdG A elt tg iter ifs scope pos it cenv).frames = some (cenv :: l) := by
  show pushEnvs [cenv] (pushEnvs [] A.frames) = _
  rw [h]
  rfl

/-- what is known behind the making of a generator -/
structure ReadyG (X : Cx) (pins : List (Addr × Obj)) (σ : L2.St) (vs : List Nat) (Xg : Cx) (a : Addr) (go : Obj) (fp : List Addr) (tn : Nat → Heap → Prop) (Gd : Nat → Hp → Prop) (n g : Nat) (pz : Nat → Bool) (yv : Nat → V) (s5 : Shared) : Prop where
  made : MadeG Xg X.A.in1 a go fp tn Gd (wipe σ vs) n g pz yv s5
  pn : Xg.pn = []
  isgen : ∀ h : Heap, h.get? a = some go → h.IsGen a g
  here : s5.heap.get? a = some go
  prog : Xg.prog = X.prog
  w : Xg.w = X.w
  back : ∀ S s' i, GEd Xg S a go Gd (wipe σ vs) i s' → ∃ H', Inv X pins σ H' s' ∧ Gd i H'

section
variable {X : Cx} {pins : List (Addr × Obj)} {σ : L2.St} {H : Hp} {s : Shared}

/-- the reading of a generator expression -/
def tGx (wi : TI) (g : TG) (tt : TT) (te : TE) (vs : List Nat) (P : Addr) (R : Nat → (Nat → Bool) → (Nat → V) → (Nat → Hp → Prop) → Prop) : L2.St → Hp → Prop := fun σ H =>
  wi σ H fun J H1 => GxR.TabG H1 P ∧ ∀ H2, GxR.Tabbed P H1 H2 → ∃ n pz yv Gd, Gd 0 H2 ∧ TurnsOk J g tt te vs (wipe σ vs) n pz yv Gd ∧ R n pz yv Gd

theorem gx_eval {k : Nat} {c P : Addr} {elt tg iter : Expr} {ifs : List Expr} {scope : Scope} {own : List (Str × Nat)} {gpos : Pos} {wi : TI} {g : TG} {tt : TT} {te : TE} {R : Nat → (Nat → Bool) → (Nat → V) → (Nat → Hp → Prop) → Prop} {Q' : Value → Shared → Prop}
    (hr : Room (k + 1) X.A) (hc : X.calm = true) (hN : X.N.Nodup) (TB : GxR.TabB X.base X.mg c P) (hcode : X.env.code = .ref c) (gs : GxS X.env scope) (ok : BlkOk X.N X.env.scope scope own)
    (hi : PI X tg iter wi)
    (hg : ∀ (A : Around) (s : Shared) (H : Hp) (C : Addr) (cd : Value) (cl : List (Str × Addr)) (fp : List Addr), Room k A → PG (gcx X A s H (genEnv scope cl C cd builtinsNs X.env) fp) tg g)
    (ht : ∀ (A : Around) (s : Shared) (H : Hp) (C : Addr) (cd : Value) (cl : List (Str × Addr)) (fp : List Addr), Room k A → PTs (gcx X A s H (genEnv scope cl C cd builtinsNs X.env) fp) ifs tt)
    (he : ∀ (A : Around) (s : Shared) (H : Hp) (C : Addr) (cd : Value) (cl : List (Str × Addr)) (fp : List Addr), Room k A → PE (gcx X A s H (genEnv scope cl C cd builtinsNs X.env) fp) elt te)
    (hs : ∀ v, genFold iter X.env v = pure v) (I : Inv X pins σ H s) (h : tGx wi g tt te (own.map (·.2)) P R σ H)
    (hQ : ∀ n pz yv Gd Xg a go fp tn g s5, R n pz yv Gd → ReadyG X pins σ (own.map (·.2)) Xg a go fp tn Gd n g pz yv s5 → Q' (.ref a) s5) :
    wpAny (model X.prog X.w) X.A (eval (.GeneratorExp elt [⟨tg, iter, ifs, 0⟩] scope gpos) X.env) Q' X.xe s := by
  have hfree : ∀ y ∈ scope.names, y.2 = .free → ∃ c, X.env.cells.lookup y.1 = some c := fun y hy e => by
    rcases ok.free y hy e with k | k
    · exact I.ok.has _ (.inl k)
    · exact I.ok.has _ (.inr k)
  refine wpAny_GeneratorExp_make gs.co (closure_ok hfree) gs.nocell gs.dot ok.kind (by have := hr.dp; omega) ?_ hs
  refine thn (hi.run pins s σ H _ I h) fun xv s1 hx => thn hx fun itv s2 h2 => ?_
  obtain ⟨it, fp, tn, J, H1, e, I1, T, st2, f2, ⟨ps, hP, ht0⟩, q1⟩ := h2
  subst e
  refine ⟨I1.nolimit, ?_⟩
  have hPs : s2.heap.get? P = some { cls := .none, data := .fields ps } := I1.hok P _ hP
  have cd : PySem.W.CodeHd s2.heap c P := TB.code.keeps fun b u e => I1.bk b u e
  have fpP : ∀ b ∈ fp, b ≠ P := fun b hb z => by
    have := (f2 b hb).1
    rw [z, hP] at this
    cases this
  have cont : ∀ (code : Value) (h3 : Heap) (tk : Nat) (ps' : Array Value), Heap.ExtBut P s2.heap h3 → s2.heap.objs.size ≤ h3.objs.size → h3.get? P = some { cls := .none, data := .fields ps' } → (∃ more, ps' = ps ++ more) → TriplesOk ps'.toList →
      wpAny (model X.prog X.w) X.A (builtinsFor X.env.globals X.env.builtins) (fun bi s₄ =>
        ∀ h', h'.Ns s₄.heap.objs.size (fun y => if y = ".0" then some (.ref it) else none) → Heap.SameBut s₄.heap.objs.size (s₄.heap.push { cls := .type "frame", data := .dict #[] }) h' →
          Q' (.ref h'.objs.size) { s₄ with
            gens := s₄.gens.push (.fresh (.compStart (.GeneratorExp elt [⟨tg, iter, ifs, 0⟩] scope gpos) 0 (.ref it) .none (genEnv scope (cloFrom X.env.cells scope.names []) s₄.heap.objs.size code bi X.env))),
            toks := s₄.toks + 1 + 1 + 1,
            heap := h'.push { cls := .type "generator", data := .fields #[.int s₄.gens.size 0, .str "<genexpr>" (s₄.toks + 1), .str (X.env.qual ++ "<genexpr>") (s₄.toks + 1 + 1)] } }) X.xe { s2 with heap := h3, toks := tk } := by
    intro code h3 tk ps' hx hsz hP3 hmore ht3
    obtain ⟨bm, ob, e1, e2, e3, e4, e5, e6, e7, e8⟩ := TB.bm
    have keep3 : ∀ b u, b ≠ P → s2.heap.get? b = some u → h3.get? b = some u := fun b u hb e => hx b u hb e
    refine wpAny_builtinsFor (m := X.mg) (by rw [I1.ok.glob]; exact (I1.mod.glob.keeps I1.bk).extBut hx TB.gP) e1 e2 (keep3 _ _ e4 (I1.bk _ _ e5)) e6 e7 e8 ?_
    obtain ⟨more, em⟩ := hmore
    -- the table has grown
    have I4 := GxR.inv_tab (more := more) (h' := h3) (g' := s2.gens) (d' := s2.drawn) (t' := tk) I1 hP keep3 (by rw [← em]; exact hP3) I1.bare
    generalize hs4 : ({ s2 with heap := h3, gens := s2.gens, drawn := s2.drawn, toks := tk } : Shared) = s4 at I4
    have eh4 : s4.heap = h3 := by rw [← hs4]
    intro h' hn' hs'
    have tab : GxR.Tabbed P H1 (upd H1 P (.tbl (ps ++ more))) := ⟨⟨ps ++ more, upd_same, by rw [← em]; exact ht3⟩, fun b hb => upd_ne hb⟩
    obtain ⟨n, pz, yv, Gd, gd0, TO, hR⟩ := q1 _ tab
    generalize hH2 : upd H1 P (.tbl (ps ++ more)) = H2 at I4 gd0 tab
    have st4 : tn 0 s4.heap := T.keep _ _ _ st2 fun b hb o e => by rw [eh4]; exact keep3 b o (fpP b hb) e
    have f4 : ∀ b ∈ fp, FpOk X pins H2 b ∧ b < s4.heap.objs.size := fun b hb => by
      obtain ⟨o, e, _⟩ := T.obj _ _ st4 b hb
      refine ⟨⟨?_, (f2 b hb).2⟩, Heap.lt_size e⟩
      rw [tab.2 b (fpP b hb)]
      exact (f2 b hb).1
    have hsz5 : h'.objs.size = s4.heap.objs.size + 1 := by rw [hs'.1, Heap.size_push]
    have keep' : ∀ b o, s4.heap.get? b = some o → h'.get? b = some o := fun b o e => hs'.extBut b o (Nat.ne_of_lt (Heap.lt_size e)) (Heap.get?_push_of_some _ e)
    generalize hgo : ({ cls := .type "generator", data := .fields #[.int s4.gens.size 0, .str "<genexpr>" (s4.toks + 1), .str (X.env.qual ++ "<genexpr>") (s4.toks + 1 + 1)] } : Obj) = go
    have keep5 : ∀ b o, s4.heap.get? b = some o → (h'.push go).get? b = some o := fun b o e => Heap.get?_push_of_some _ (keep' b o e)
    generalize hcenv : genEnv scope (cloFrom X.env.cells scope.names []) s4.heap.objs.size code builtinsNs X.env = cenv
    have hfr := I4.ok.frames
    have hAf : (ArdG X.A elt tg iter ifs scope gpos it cenv).frames = some (cenv :: X.stack) := ardG_frames hfr
    have hrg : Room k (ArdG X.A elt tg iter ifs scope gpos it cenv) := ardG_room hr
    have cL : cenv.locals = s4.heap.objs.size := by rw [← hcenv]; rfl
    have cC : cenv.cells = cloFrom X.env.cells scope.names [] := by rw [← hcenv]; rfl
    have cSc : cenv.scope = scope := by rw [← hcenv]; rfl
    have IG : Inv (gcx X (ArdG X.A elt tg iter ifs scope gpos it cenv) s4 H2 cenv fp) [] (wipe σ (own.map (·.2))) H2
        { s4 with heap := h'.push go, gens := s4.gens.push (.fresh (.compStart (.GeneratorExp elt [⟨tg, iter, ifs, 0⟩] scope gpos) 0 (.ref it) .none cenv)), toks := s4.toks + 1 + 1 + 1 } := by
      have z := gen_start (A := ArdG X.A elt tg iter ifs scope gpos it cenv) (fp := fp) (code := code) (g' := s4.gens.push (.fresh (.compStart (.GeneratorExp elt [⟨tg, iter, ifs, 0⟩] scope gpos) 0 (.ref it) .none cenv))) (h' := h'.push go) (tk := s4.toks + 1 + 1 + 1) I4 ok gs hN f4 (I4.ok.hd hc) (by rw [hcenv]; exact hAf) (hn'.push _) keep5 (I4.bare.push rfl)
      rw [hcenv] at z
      exact z
    generalize hs5 : ({ s4 with heap := h'.push go, gens := s4.gens.push (.fresh (.compStart (.GeneratorExp elt [⟨tg, iter, ifs, 0⟩] scope gpos) 0 (.ref it) .none cenv)), toks := s4.toks + 1 + 1 + 1 } : Shared) = s5 at IG
    have e5h : s5.heap = h'.push go := by rw [← hs5]
    have e5g : s5.gens = s4.gens.push (.fresh (.compStart (.GeneratorExp elt [⟨tg, iter, ifs, 0⟩] scope gpos) 0 (.ref it) .none cenv)) := by rw [← hs5]
    have ha5 : s5.heap.get? h'.objs.size = some go := by rw [e5h]; exact Heap.get?_push_size _ (by rw [← hgo]; rfl)
    have sz5 : s5.heap.objs.size = s4.heap.objs.size + 1 + 1 := by rw [e5h, Heap.size_push, hsz5]
    have hcl : ∀ x cc, cenv.cells.lookup x = some cc → cc < s4.heap.objs.size := fun x cc e => by
      rw [cC] at e
      exact (clo_mem I4 ok e).2.1
    have goc : ∀ v, go.data ≠ .cell v := fun v z => by rw [← hgo] at z; cases z
    have afp : h'.objs.size ∉ fp := fun hm => by
      exact nb5 hsz5 (f4 _ hm).2
    have pg := hg (ArdG X.A elt tg iter ifs scope gpos it cenv) s4 H2 s4.heap.objs.size code (cloFrom X.env.cells scope.names []) fp hrg
    have pt := ht (ArdG X.A elt tg iter ifs scope gpos it cenv) s4 H2 s4.heap.objs.size code (cloFrom X.env.cells scope.names []) fp hrg
    have pe := he (ArdG X.A elt tg iter ifs scope gpos it cenv) s4 H2 s4.heap.objs.size code (cloFrom X.env.cells scope.names []) fp hrg
    rw [hcenv] at pg pt pe
    refine hQ n pz yv Gd (gcx X (ArdG X.A elt tg iter ifs scope gpos it cenv) s4 H2 cenv fp) h'.objs.size go fp tn s4.gens.size s5 hR ⟨?_, rfl, fun h e => ⟨go, _, _, e, by rw [← hgo], by rw [← hgo], by rw [← hgo]⟩, ha5, rfl, rfl, ?_⟩
    · -- ready
      intro S pl s6 epl eg6 eo6 k6 hp6
      have ap : SApart (gcx X (ArdG X.A elt tg iter ifs scope gpos it cenv) s4 H2 cenv fp) S h'.objs.size fp := by
        have big : ∀ b ∈ S, s5.heap.objs.size ≤ b := fun b hb => by
          rw [← epl] at hb
          obtain ⟨p, hp, e⟩ := List.mem_map.mp hb
          rw [← e]
          exact (hp6 p hp).1
        refine ⟨fun b hb => ?_, fun b hb z => ?_, fun b hb x cc e z => ?_, fun b hb z => ?_, fun b hb z => ?_⟩
        · exact nb1 sz5 (big b hb)
        · have z : b = cenv.locals := z
          rw [cL] at z
          have z2 := nb1' sz5 (big b hb)
          rw [z] at z2
          exact Nat.lt_irrefl _ z2
        · exact nb3 sz5 (big b hb) (hcl x cc e) z
        · exact nb4 sz5 (big b hb) hsz5 z
        · exact nb3 sz5 (big b hb) (f4 b z).2 rfl
      refine ⟨ap, ?_⟩
      have I6 : Inv (gcx X (ArdG X.A elt tg iter ifs scope gpos it cenv) s4 H2 cenv fp) [] (wipe σ (own.map (·.2))) H2 s6 := by
        have z := IG.kept (h' := s6.heap) (t' := s6.toks) k6
        obtain ⟨hh6, g6, d6, t6, o6⟩ := s6
        have eg6 : g6 = s5.gens := eg6
        have eo6 : o6 = s5.os := eo6
        subst eg6 eo6
        refine IG.call' (s' := ⟨hh6, s5.gens, d6, t6, s5.os⟩) (ch := []) rfl (Un.kept k6) (IG.hok.kept k6) IG.bare fun b hb => by cases hb
      have I7 : Inv (gcx X (ArdG X.A elt tg iter ifs scope gpos it cenv) s4 H2 cenv fp) ((h'.objs.size, go) :: pl) (wipe σ (own.map (·.2))) H2 s6 := by
        refine I6.pins_of fun p hp => ?_
        have big : s4.heap.objs.size < p.1 ∧ s6.heap.get? p.1 = some p.2 ∧ ∀ v, p.2.data ≠ .cell v := by
          rcases List.mem_cons.mp hp with e | hp
          · rw [e]
            exact ⟨nb6 hsz5, k6 _ _ ha5, goc⟩
          · obtain ⟨z1, z2, z3⟩ := hp6 p hp
            exact ⟨nb1' sz5 z1, z2, z3⟩
        obtain ⟨z1, z2, z3⟩ := big
        refine ⟨z2, I4.hok.fresh (Nat.le_of_lt z1), ?_, ?_, z3⟩
        · show p.1 ≠ cenv.locals
          rw [cL]
          exact fun z => Nat.lt_irrefl _ (by rw [z] at z1; exact z1)
        · intro hb
          obtain ⟨_, o, ho, _⟩ := Heap.FunFrames.mem I4.stack hb
          exact Nat.lt_irrefl _ (Nat.lt_trans z1 (Heap.lt_size ho))
      have hfree : ∀ b ∈ fp, H2 b = none := fun b hb => (f4 b hb).1.1
      have st6 : tn 0 s6.heap := T.keep _ _ _ st4 fun b hb o e => k6 b o (by rw [e5h]; exact keep5 b o e)
      have gst : GSt (gcx X (ArdG X.A elt tg iter ifs scope gpos it cenv) s4 H2 cenv fp) S h'.objs.size go fp tn Gd (wipe σ (own.map (·.2))) 0 s6 := ⟨H2, pl, epl, I7, st6, hfree, gd0⟩
      have gz : s4.gens.size < s6.gens.size := by rw [eg6, e5g, Array.size_push]; exact Nat.lt_succ_self _
      refine ⟨⟨0, gst.ed⟩, gz, .fresh (.compStart (.GeneratorExp elt [⟨tg, iter, ifs, 0⟩] scope gpos) 0 (.ref it) .none cenv), by rw [eg6, e5g]; exact Array.getElem?_push_size .., fun s'' k => ⟨rfl, ?_⟩⟩
      rw [Nat.sub_zero]
      exact seg_gstart (A := X.A.in1.in1) (Xg := gcx X (ArdG X.A elt tg iter ifs scope gpos it cenv) s4 H2 cenv fp) rfl hc (by show cenv.scope.isCoroutine = false; rw [cSc]; exact gs.co) rfl rfl rfl T ap afp (fun b hb => ap.fp b hb) pg pt pe TO s'' (Nat.lt_of_lt_of_le gz k.gsz) (gst.kp T rfl ap k)
    · -- back
      intro S s' i hed
      obtain ⟨H', pl, epl, I', gd⟩ := hed
      refine ⟨H', ?_, gd⟩
      refine I4.call' (ch := fp) ?_ I'.base I'.hok I'.bare fun b hb => ⟨(f4 b hb).1.2.2.2.1, (f4 b hb).1.2.1, (f4 b hb).1.2.2.2.2.1, (f4 b hb).1.2.2.2.2.2⟩
      exact I'.os
  cases hf : codeAmong gpos ps.toList with
  | none =>
    refine wpAny_genexprCodeX hcode (cd.code hPs ht0) (cd.tab hPs) hf fun c' h' tk hx hge hlt hco' _ htab' _ => ?_
    obtain ⟨o1, vs, f1, tf, fl, tg, inF, tx, tt, op, _, _, _, _, _, _, _, _, _, htr, _⟩ := hco'
    exact cont _ h' tk _ hx (Nat.le_trans hge (Nat.le_of_lt hlt)) htab'.2 ⟨_, rfl⟩ htr
  | some cv =>
    refine wpAny_genexprCode_hit hcode (cd.code hPs ht0) hf ?_
    exact cont cv s2.heap s2.toks ps (Heap.ExtBut.refl _ _) (Nat.le_refl _) hPs ⟨#[], by simp⟩ ht0
end
end GxI
set_option Elab.async false
set_option linter.all false
set_option maxRecDepth 100000
set_option maxHeartbeats 2000000
namespace GxI
open PySem PySem.Spec PyProof.Rows L2
section
variable {X : Cx} {pins : List (Addr × Obj)} {σ : L2.St} {H : Hp} {s : Shared}

def rAny (Q : VK) : Nat → (Nat → Bool) → (Nat → V) → (Nat → Hp → Prop) → Prop := fun n pz yv Gd => ∃ pb : Nat → Bool, yv = (fun i => .bl (pb i)) ∧ ∀ i H', Gd i H' → Q (.bl ((passing pz n 0).any pb)) H'
def rAll (Q : VK) : Nat → (Nat → Bool) → (Nat → V) → (Nat → Hp → Prop) → Prop := fun n pz yv Gd => ∃ pb : Nat → Bool, yv = (fun i => .bl (pb i)) ∧ ∀ i H', Gd i H' → Q (.bl ((passing pz n 0).all pb)) H'
def rSum (Q : VK) : Nat → (Nat → Bool) → (Nat → V) → (Nat → Hp → Prop) → Prop := fun n pz yv Gd => ∃ val : Nat → Int, yv = (fun i => .int (val i)) ∧ ∀ i H', Gd i H' → Q (.int ((passing pz n 0).map val).sum) H'

theorem run_any {Xg : Cx} {a : Addr} {go : Obj} {fp : List Addr} {tn : Nat → Heap → Prop} {Gd : Nat → Hp → Prop} {n g : Nat} {pz : Nat → Bool} {yv : Nat → V} {vs : List Nat} {s5 : Shared} {Q : VK} {k : Nat}
    (hr : Room k X.A) (R : rAny Q n pz yv Gd) (Y : ReadyG X pins σ vs Xg a go fp tn Gd n g pz yv s5) : wpAny (model X.prog X.w) X.A (call (.builtin "any") [.ref a]) (EP X pins σ Q) X.xe s5 := by
  obtain ⟨pb, rfl, hQ⟩ := R
  obtain ⟨made, pn, isg, here, ep, ew, back⟩ := Y
  obtain ⟨ap, hat⟩ := made [] [] s5 rfl rfl rfl (fun _ _ e => e) (fun p hp => by cases hp)
  refine call_function_tree F.kind_any F.plain_any F.entry_any (F.args_any1 _) ?_
  unfold Builtin.«any»
  refine wpAny_bind (m := oneArg "any" _) (wpAny_pure ?_)
  refine wpAny_bind (wpAny_pyIter_gen (isg _ here) ?_)
  have hroom : X.A.in1.depth < recursionLimit := hr.depth
  have z := any_loopG (A := X.A) (R := fun r s' => match r with | .ok (.ret v) => EP X pins σ Q v s' | .ok _ => False | .error e => X.xe e s') pn ap isg hr.hd hroom _ 0 s5 rfl (Nat.zero_le _) hat fun s' i c => by
    obtain ⟨H', I', gd⟩ := back _ _ _ c
    rw [List.drop_zero]
    exact ⟨.bl _, H', I', rfl, hQ i H' gd⟩
  rw [ep, ew] at z
  exact wpAny_pure ⟨plainId_quiet F.plain_any_loop _, z⟩
theorem run_all {Xg : Cx} {a : Addr} {go : Obj} {fp : List Addr} {tn : Nat → Heap → Prop} {Gd : Nat → Hp → Prop} {n g : Nat} {pz : Nat → Bool} {yv : Nat → V} {vs : List Nat} {s5 : Shared} {Q : VK} {k : Nat}
    (hr : Room k X.A) (R : rAll Q n pz yv Gd) (Y : ReadyG X pins σ vs Xg a go fp tn Gd n g pz yv s5) : wpAny (model X.prog X.w) X.A (call (.builtin "all") [.ref a]) (EP X pins σ Q) X.xe s5 := by
  obtain ⟨pb, rfl, hQ⟩ := R
  obtain ⟨made, pn, isg, here, ep, ew, back⟩ := Y
  obtain ⟨ap, hat⟩ := made [] [] s5 rfl rfl rfl (fun _ _ e => e) (fun p hp => by cases hp)
  refine call_function_tree F.kind_all F.plain_all F.entry_all (F.args_all1 _) ?_
  unfold Builtin.«all»
  refine wpAny_bind (m := oneArg "all" _) (wpAny_pure ?_)
  refine wpAny_bind (wpAny_pyIter_gen (isg _ here) ?_)
  have hroom : X.A.in1.depth < recursionLimit := hr.depth
  have z := all_loopG (A := X.A) (R := fun r s' => match r with | .ok (.ret v) => EP X pins σ Q v s' | .ok _ => False | .error e => X.xe e s') pn ap isg hr.hd hroom _ 0 s5 rfl (Nat.zero_le _) hat fun s' i c => by
    obtain ⟨H', I', gd⟩ := back _ _ _ c
    rw [List.drop_zero]
    exact ⟨.bl _, H', I', rfl, hQ i H' gd⟩
  rw [ep, ew] at z
  exact wpAny_pure ⟨plainId_quiet F.plain_all_loop _, z⟩
theorem run_sum {Xg : Cx} {a : Addr} {go : Obj} {fp : List Addr} {tn : Nat → Heap → Prop} {Gd : Nat → Hp → Prop} {n g : Nat} {pz : Nat → Bool} {yv : Nat → V} {vs : List Nat} {s5 : Shared} {Q : VK} {k : Nat}
    (hr : Room k X.A) (R : rSum Q n pz yv Gd) (Y : ReadyG X pins σ vs Xg a go fp tn Gd n g pz yv s5) : wpAny (model X.prog X.w) X.A (call (.builtin "sum") [.ref a]) (EP X pins σ Q) X.xe s5 := by
  obtain ⟨val, rfl, hQ⟩ := R
  obtain ⟨made, pn, isg, here, ep, ew, back⟩ := Y
  refine call_function_tree F.kind_sum F.plain_sum F.entry_sum (F.args_sum1 _) ?_
  unfold Builtin.«sum»
  simp only [List.length_cons, List.length_nil]
  rw [if_neg (by decide)]
  refine wpAny_bind (wpAny_of_eq (show Builtin.Builtins.bindParams "sum" ["start"] 0 { } = pure [none] from rfl) ?_)
  refine wpAny_bind (wpAny_pyIter_gen (isg _ here) ?_)
  refine wpAny_bind (wpAny_mkInt ?_)
  refine wpAny_bind (wpAny_pure ?_)
  simp only [List.forIn_cons, List.forIn_nil]
  refine wpAny_bind (wpAny_bind (wpAny_bind (wpAny_isInstance (T := "int") (b := false) (typeIs_int _ _ _) PySem.sub_int_str ?_)))
  simp only [Bool.false_eq_true, if_false]
  refine wpAny_pure (wpAny_bind (wpAny_bind (wpAny_isInstance (T := "int") (b := false) (typeIs_int _ _ _) sub_int_bytes ?_)))
  simp only [Bool.false_eq_true, if_false]
  refine wpAny_pure (wpAny_bind (wpAny_bind (wpAny_isInstance (T := "int") (b := false) (typeIs_int _ _ _) sub_int_bytearray ?_)))
  simp only [Bool.false_eq_true, if_false]
  refine wpAny_pure (wpAny_pure ?_)
  refine wpAny_bind (wpAny_newObj_type ?_)
  generalize hs6 : ({ s5 with heap := s5.heap.push { cls := .type "list", data := .seq #[.int 0 s5.toks] }, toks := s5.toks + 1 } : Shared) = s6
  have e6 : s6.heap = s5.heap.push { cls := .type "list", data := .seq #[.int 0 s5.toks] } := by rw [← hs6]
  have hS : s6.heap.get? s5.heap.objs.size = some { cls := .type "list", dict := none, data := .seq #[.int 0 s5.toks] 0, slots := #[] } := by rw [e6]; exact Heap.get?_push_size _ rfl
  obtain ⟨ap, hat⟩ := made [s5.heap.objs.size] [(s5.heap.objs.size, _)] s6 rfl (by rw [← hs6]) (by rw [← hs6]) (fun _ _ e => by rw [e6]; exact Heap.get?_push_of_some _ e) (fun p hp => by
    rw [List.mem_singleton.mp hp]
    exact ⟨Nat.le_refl _, hS, fun v z => by cases z⟩)
  have hroom : X.A.in1.depth < recursionLimit := hr.depth
  have z := sum_loopG (A := X.A) (R := fun r s' => match r with | .ok (.ret v) => EP X pins σ Q v s' | .ok _ => False | .error e => X.xe e s') pn ap isg hr.hd hroom _ 0 s6 s5.toks 0 0 (.inl rfl) rfl (Nat.zero_le _) hat hS fun s' i t' c => by
    obtain ⟨H', I', gd⟩ := back _ _ _ c
    exact ⟨.int _, H', I', ⟨t', rfl⟩, hQ i H' gd⟩
  rw [ep, ew] at z
  exact wpAny_pure ⟨plainId_quiet F.plain_sum_loop _, z⟩

/-- the three built-ins -/
structure GxB (X : Cx) (f : Str) (id : String) (r : VK → Nat → (Nat → Bool) → (Nat → V) → (Nat → Hp → Prop) → Prop) : Prop where
  boot : bootBuiltins f = some (.builtin id)
  run : ∀ {pins : List (Addr × Obj)} {σ : L2.St} {Xg : Cx} {a : Addr} {go : Obj} {fp : List Addr} {tn : Nat → Heap → Prop} {Gd : Nat → Hp → Prop} {n g : Nat} {pz : Nat → Bool} {yv : Nat → V} {vs : List Nat} {s5 : Shared} {Q : VK},
    r Q n pz yv Gd → ReadyG X pins σ vs Xg a go fp tn Gd n g pz yv s5 → wpAny (model X.prog X.w) X.A (call (.builtin id) [.ref a]) (EP X pins σ Q) X.xe s5
theorem gx_any {k : Nat} (hr : Room k X.A) : GxB X "any" "any" rAny := ⟨boot_any, fun R Y => run_any hr R Y⟩
theorem gx_all {k : Nat} (hr : Room k X.A) : GxB X "all" "all" rAll := ⟨by decide +kernel, fun R Y => run_all hr R Y⟩
theorem gx_sum {k : Nat} (hr : Room k X.A) : GxB X "sum" "sum" rSum := ⟨by decide +kernel, fun R Y => run_sum hr R Y⟩

def tGxC (wi : TI) (g : TG) (tt : TT) (te : TE) (vs : List Nat) (P : Addr) (r : VK → Nat → (Nat → Bool) → (Nat → V) → (Nat → Hp → Prop) → Prop) : TE := fun σ H Q => tGx wi g tt te vs P (r Q) σ H

/-- any(elt for tg in iter if ..), all, sum -/
theorem pe_gx {k : Nat} {c P : Addr} {f : Str} {id : String} {r : VK → Nat → (Nat → Bool) → (Nat → V) → (Nat → Hp → Prop) → Prop} {elt tg iter : Expr} {ifs : List Expr} {scope : Scope} {own : List (Str × Nat)} {gpos p pos : Pos} {wi : TI} {g : TG} {tt : TT} {te : TE}
    (B : GxB X f id r) (hgl : Gl X f) (hm : X.mg f = none) (hr : Room (k + 1) X.A) (hc : X.calm = true) (hN : X.N.Nodup) (TB : GxR.TabB X.base X.mg c P) (hcode : X.env.code = .ref c) (gs : GxS X.env scope) (ok : BlkOk X.N X.env.scope scope own)
    (hi : PI X tg iter wi)
    (hg : ∀ (A : Around) (s : Shared) (H : Hp) (C : Addr) (cd : Value) (cl : List (Str × Addr)) (fp : List Addr), Room k A → PG (gcx X A s H (genEnv scope cl C cd builtinsNs X.env) fp) tg g)
    (ht : ∀ (A : Around) (s : Shared) (H : Hp) (C : Addr) (cd : Value) (cl : List (Str × Addr)) (fp : List Addr), Room k A → PTs (gcx X A s H (genEnv scope cl C cd builtinsNs X.env) fp) ifs tt)
    (he : ∀ (A : Around) (s : Shared) (H : Hp) (C : Addr) (cd : Value) (cl : List (Str × Addr)) (fp : List Addr), Room k A → PE (gcx X A s H (genEnv scope cl C cd builtinsNs X.env) fp) elt te)
    (hs : ∀ v, genFold iter X.env v = pure v := by intro _; rfl) (hn : f ≠ "__name__" := by decide) (hd : (f == ("__debug__" : Str)) = false := by decide)
    (hst : starEach [.GeneratorExp elt [⟨tg, iter, ifs, 0⟩] scope gpos] X.env = (false, eval (.GeneratorExp elt [⟨tg, iter, ifs, 0⟩] scope gpos) X.env) :: starEach [] X.env := by rfl) :
    PE X (.Call (.Name f p) [.GeneratorExp elt [⟨tg, iter, ifs, 0⟩] scope gpos] [] pos) (tGxC wi g tt te (own.map (·.2)) P r) := by
  refine ⟨fun pins s σ H Q I h => ?_⟩
  refine wpAny_Call_Name_kw (ld_blt I hgl hm B.boot ?_ hn hd)
  refine PyProof.Rows.callWith_builtin1 ?_ hst (by rfl)
  rw [hst]
  show wpAny _ _ (spliced ((false, eval (.GeneratorExp elt [⟨tg, iter, ifs, 0⟩] scope gpos) X.env) :: backTo pos (starEach [] X.env))) _ _ s
  refine Calls.spliced_cons (gx_eval (k := k) hr hc hN TB hcode gs ok hi hg ht he hs I h fun n pz yv Gd Xg a go fp tn g s5 R Y => ?_)
  refine Calls.spliced_nil ?_
  exact B.run R Y
end
end GxI
set_option Elab.async false
set_option linter.all false
set_option maxRecDepth 100000
set_option maxHeartbeats 2000000
/-! A reading by data: what a def's slots hold is told by plain data; expressions and statements are read over that alone. -/
namespace PL
open PySem PySem.Spec PyProof.Rows L2
open LamX (ExtN Tabs TabS)

/-! ### data in the heap -/
def keyD : Key → PyData
  | .inl i => .int i
  | .inr x => .str x
/-- a row that is no key -/
def NK (ds : List PyData) : Prop := ds = [] ∨ ∃ d ∈ ds, ∀ k : Key, d ≠ keyD k
mutual
inductive Da (K : PySem.W.Frag) (H : Hp) : V → PyData → Prop
  | non : Da K H .non .none
  | bl (b : Bool) : Da K H (.bl b) (.bool b)
  | int (i : Int) : Da K H (.int i) (.int i)
  | str (x : Str) : Da K H (.str x) (.str x)
  | lst {a : Addr} {xs : List V} {ds : List PyData} : H a = some (.lst xs) → DaAll K H xs ds → Da K H (.ref a) (.list ds)
  | tup {a : Addr} {xs : List V} {ds : List PyData} : H a = some (.tup xs) → DaAll K H xs ds → Da K H (.ref a) (.tuple ds)
  | ftup {a : Addr} {ob : Obj} {xs : List V} {ds : List PyData} : H a = some (.frz ob (.tup xs)) → ob.dict = none → NK ds → DaAll K H xs ds → Da K H (.ref a) (.tuple ds)
  | dk {a : Addr} {kvs : List (Key × V)} {ds : List PyData} : H a = some (.dK kvs) → DaAll K H (kvs.map (·.2)) ds → Da K H (.ref a) (.dict ((kvs.map fun p => keyD p.1).zip ds))
  | dt {a : Addr} {kvs : List (List Key × V)} {ds : List PyData} : H a = some (.dT kvs) → kvs ≠ [] → DaAll K H (kvs.map (·.2)) ds → Da K H (.ref a) (.dict ((kvs.map fun p => .tuple (p.1.map keyD)).zip ds))
inductive DaAll (K : PySem.W.Frag) (H : Hp) : List V → List PyData → Prop
  | nil : DaAll K H [] []
  | cons {v : V} {vs : List V} {d : PyData} {ds : List PyData} : Da K H v d → DaAll K H vs ds → DaAll K H (v :: vs) (d :: ds)
end
section
variable {K : PySem.W.Frag} {H H' : Hp}
theorem rd_ext (e : ExtN H H') {a : Addr} {o : HO} (ho : ∀ ps, o ≠ .tbl ps) (h : Rd H a o) : Rd H' a o := by
  rcases h with h | ⟨ob, h⟩
  · exact .inl (e _ _ h ho)
  · exact .inr ⟨ob, e _ _ h fun ps z => by cases z⟩
theorem sqL_ext (e : ExtN H H') {a : Addr} {xs : List V} (h : SqL K H a xs) : SqL K H' a xs := by
  rcases h with h | h
  · exact .inl (rd_ext e (fun ps z => by cases z) h)
  · exact .inr h
theorem sqT_ext (e : ExtN H H') {a : Addr} {xs : List V} (h : SqT K H a xs) : SqT K H' a xs := by
  rcases h with h | h
  · exact .inl (rd_ext e (fun ps z => by cases z) h)
  · exact .inr h
mutual
theorem Da.ext (e : ExtN H H') : ∀ {v : V} {d : PyData}, Da K H v d → Da K H' v d
  | _, _, .non => .non
  | _, _, .bl b => .bl b
  | _, _, .int i => .int i
  | _, _, .str x => .str x
  | _, _, .lst h r => .lst (e _ _ h fun ps z => by cases z) (DaAll.ext e r)
  | _, _, .tup h r => .tup (e _ _ h fun ps z => by cases z) (DaAll.ext e r)
  | _, _, .ftup h q n r => .ftup (e _ _ h fun ps z => by cases z) q n (DaAll.ext e r)
  | _, _, .dk h r => .dk (e _ _ h fun ps z => by cases z) (DaAll.ext e r)
  | _, _, .dt h n r => .dt (e _ _ h fun ps z => by cases z) n (DaAll.ext e r)
theorem DaAll.ext (e : ExtN H H') : ∀ {vs : List V} {ds : List PyData}, DaAll K H vs ds → DaAll K H' vs ds
  | _, _, .nil => .nil
  | _, _, .cons h r => .cons (Da.ext e h) (DaAll.ext e r)
end
theorem DaAll.length : ∀ {vs : List V} {ds : List PyData}, DaAll K H vs ds → vs.length = ds.length
  | _, _, .nil => rfl
  | _, _, .cons _ r => congrArg (· + 1) (DaAll.length r)
theorem DaAll.get : ∀ {vs : List V} {ds : List PyData} {i : Nat} {v : V}, DaAll K H vs ds → vs[i]? = some v → ∃ d, ds[i]? = some d ∧ Da K H v d
  | _, _, _, _, .nil, e => by simp at e
  | _, _, 0, _, .cons h _, e => by simp at e; subst e; exact ⟨_, rfl, h⟩
  | _, _, i + 1, _, .cons _ r, e => by
    obtain ⟨d, h1, h2⟩ := DaAll.get (i := i) r (by simpa using e)
    exact ⟨d, by simpa using h1, h2⟩
theorem DaAll.getD : ∀ {vs : List V} {ds : List PyData} {i : Nat} {d : PyData}, DaAll K H vs ds → ds[i]? = some d → ∃ v, vs[i]? = some v ∧ Da K H v d
  | _, _, _, _, .nil, e => by simp at e
  | _, _, 0, _, .cons h _, e => by simp at e; subst e; exact ⟨_, rfl, h⟩
  | _, _, i + 1, _, .cons _ r, e => by
    obtain ⟨d, h1, h2⟩ := DaAll.getD (i := i) r (by simpa using e)
    exact ⟨d, by simpa using h1, h2⟩
theorem DaAll.append : ∀ {vs ws : List V} {ds es : List PyData}, DaAll K H vs ds → DaAll K H ws es → DaAll K H (vs ++ ws) (ds ++ es)
  | _, _, _, _, .nil, s => s
  | _, _, _, _, .cons h r, s => .cons h (DaAll.append r s)
theorem DaAll.take : ∀ {vs : List V} {ds : List PyData} (n : Nat), DaAll K H vs ds → DaAll K H (vs.take n) (ds.take n)
  | _, _, 0, _ => .nil
  | _, _, _ + 1, .nil => .nil
  | _, _, n + 1, .cons h r => .cons h (DaAll.take n r)
theorem DaAll.drop : ∀ {vs : List V} {ds : List PyData} (n : Nat), DaAll K H vs ds → DaAll K H (vs.drop n) (ds.drop n)
  | _, _, 0, r => r
  | _, _, _ + 1, .nil => .nil
  | _, _, n + 1, .cons _ r => DaAll.drop n r
theorem DaAll.set {v : V} {d : PyData} (h : Da K H v d) : ∀ {vs : List V} {ds : List PyData} (i : Nat), DaAll K H vs ds → DaAll K H (vs.set i v) (ds.set i d)
  | _, _, _, .nil => .nil
  | _, _, 0, .cons _ r => .cons h r
  | _, _, i + 1, .cons q r => .cons q (DaAll.set h i r)
theorem DaAll.reverse {vs : List V} {ds : List PyData} (h : DaAll K H vs ds) : DaAll K H vs.reverse ds.reverse := by
  induction vs generalizing ds with
  | nil => cases h; exact .nil
  | cons v r ih =>
    cases h with
    | cons h1 h2 =>
      rw [List.reverse_cons, List.reverse_cons]
      exact (ih h2).append (.cons h1 .nil)
theorem DaAll.ints : ∀ {vs : List V} (ns : List Int), DaAll K H vs (ns.map .int) → vs = ns.map V.int
  | _, [], .nil => rfl
  | _, n :: r, .cons h t => by
    cases h
    rw [DaAll.ints r t]
    rfl
theorem daAll_ints : ∀ (ns : List Int), DaAll K H (ns.map V.int) (ns.map .int)
  | [] => .nil
  | n :: r => .cons (.int n) (daAll_ints r)

mutual
theorem Da.dp : ∀ {v : V} {d : PyData}, Da K H v d → PyData.plain d = true → Dp K H v d
  | _, _, .non, _ => .non
  | _, _, .bl b, _ => .bl b
  | _, _, .int i, _ => .int i
  | _, _, .str x, _ => .str x
  | _, _, .lst h r, p => .lst (SqL.of h) (DaAll.dp r (by simpa [PyData.plain] using p))
  | _, _, .tup h r, p => .tup (SqT.of h) (DaAll.dp r (by simpa [PyData.plain] using p))
  | _, _, .ftup h _ _ r, p => .tup (.inl (.inr ⟨_, h⟩)) (DaAll.dp r (by simpa [PyData.plain] using p))
  | _, _, .dk _ _, p => by simp [PyData.plain] at p
  | _, _, .dt _ _ _, p => by simp [PyData.plain] at p
theorem DaAll.dp : ∀ {vs : List V} {ds : List PyData}, DaAll K H vs ds → PyData.plainAll ds = true → DpAll K H vs ds
  | _, _, .nil, _ => .nil
  | _, _, .cons h r, p => by
    simp only [PyData.plainAll, Bool.and_eq_true] at p
    exact .cons (Da.dp h p.1) (DaAll.dp r p.2)
end
end

/-- a tuple that is known to have no dict of its own -/
def Plt (H : Hp) (v : V) : Prop := ∃ a ob xs, v = .ref a ∧ H a = some (.frz ob (.tup xs)) ∧ ob.dict = none
theorem Plt.ext {H H' : Hp} {v : V} (h : Plt H v) (e : ExtN H H') : Plt H' v := by
  obtain ⟨a, ob, xs, h1, h2, h3⟩ := h
  exact ⟨a, ob, xs, h1, e _ _ h2 (fun ps z => by cases z), h3⟩
/-! ### what stands apart -/
def hide (O : List Addr) (H : Hp) : Hp := fun b => if b ∈ O then none else H b
section
variable {O : List Addr} {H H' : Hp} {a b : Addr} {o : HO}
theorem hide_in (h : b ∈ O) : hide O H b = none := if_pos h
theorem hide_out (h : b ∉ O) : hide O H b = H b := if_neg h
theorem hide_some (h : hide O H b = some o) : b ∉ O ∧ H b = some o := by
  by_cases hb : b ∈ O
  · rw [hide_in hb] at h
    cases h
  · rw [hide_out hb] at h
    exact ⟨hb, h⟩
theorem hide_nil : hide [] H = H := by
  funext b
  exact if_neg (by simp)
/-- a new object of ours -/
theorem hide_new (h : H a = none) : hide (a :: O) (upd H a o) = hide O H := by
  funext b
  by_cases hb : b = a
  · subst hb
    rw [hide_in (List.mem_cons_self)]
    unfold hide
    split
    · rfl
    · exact h.symm
  · by_cases hO : b ∈ O
    · rw [hide_in hO, hide_in (List.mem_cons_of_mem _ hO)]
    · rw [hide_out hO, hide_out (fun z => (List.mem_cons.mp z).elim hb hO), upd_ne hb]
/-- an object of ours is written -/
theorem hide_upd (h : a ∈ O) : hide O (upd H a o) = hide O H := by
  funext b
  by_cases hO : b ∈ O
  · rw [hide_in hO, hide_in hO]
  · rw [hide_out hO, hide_out hO, upd_ne (fun z => hO (by rw [z]; exact h))]
theorem ext_hide (e : ∀ b o, b ∉ O → H b = some o → (∀ ps, o ≠ .tbl ps) → H' b = some o) : ExtN (hide O H) (hide O H') := fun b o h n => by
  obtain ⟨h1, h2⟩ := hide_some h
  rw [hide_out h1]
  exact e b o h1 h2 n
theorem ext_sub {O' : List Addr} (h : ∀ b ∈ O', b ∈ O) : ExtN (hide O H) (hide O' H) := fun b o e _ => by
  obtain ⟨h1, h2⟩ := hide_some e
  rw [hide_out (fun z => h1 (h b z))]
  exact h2
end

/-! ### slots -/
/-- where the tables of code objects stand: of generator expressions; of lambdas, with their names -/
structure Tb where
  tg : List Addr
  tl : List (Addr × Str)
  dc : List Addr := []
structure TOk (T : Tb) (H : Hp) : Prop where
  g : ∀ P ∈ T.tg, GxR.TabG H P
  l : Tabs T.tl H
theorem TOk.keep {T : Tb} {H H' : Hp} (t : TOk T H) (e : ∀ b o, H b = some o → H' b = some o) : TOk T H' :=
  ⟨fun P hP => by obtain ⟨ps, h1, h2⟩ := t.g P hP; exact ⟨ps, e _ _ h1, h2⟩, t.l.ext e⟩

inductive Sl where
  | un
  | sh (d : PyData)
  | ol (ds : List PyData)
  | ok (kvs : List (Key × PyData))
  | ot (kvs : List (List Key × PyData))
  | dice
  | scr (ns : List Int)
abbrev En := List Sl
def Sl.owned : Sl → Bool
  | .un => false
  | .sh _ => false
  | .dice => false
  | .scr _ => false
  | _ => true

def Own (D0 O : List Addr) (a : Addr) : Prop := a ∈ O ∧ a ∉ D0
def SlOk (K : PySem.W.Frag) (D0 O : List Addr) (H : Hp) : Sl → Option V → Prop
  | .un, _ => True
  | .sh d, v => ∃ x, v = some x ∧ Da K (hide O H) x d
  | .ol ds, v => ∃ a vs, v = some (.ref a) ∧ Own D0 O a ∧ H a = some (.lst vs) ∧ DaAll K (hide O H) vs ds
  | .ok kvs, v => ∃ a vs, v = some (.ref a) ∧ Own D0 O a ∧ H a = some (.dK vs) ∧ vs.map (·.1) = kvs.map (·.1) ∧ DaAll K (hide O H) (vs.map (·.2)) (kvs.map (·.2))
  | .ot kvs, v => ∃ a vs, v = some (.ref a) ∧ Own D0 O a ∧ H a = some (.dT vs) ∧ vs.map (·.1) = kvs.map (·.1) ∧ DaAll K (hide O H) (vs.map (·.2)) (kvs.map (·.2))
  | .dice, v => ∃ a, v = some (.ref a) ∧ a ∈ D0
  | .scr ns, v => ∃ a, v = some (.ref a) ∧ SqL K (hide O H) a (ns.map V.int)

/-- Hb: what stood; O: what is ours alone; fl: ours, in flight -/
structure Gh where
  Hb : Hp
  O : List Addr
  fl : List (Addr × HO)
structure Rep (T : Tb) (K : PySem.W.Frag) (G : Gh) (ρ : En) (σ : L2.St) (H : Hp) : Prop where
  len : ρ.length = σ.length
  slot : ∀ (i : Nat) (s : Sl), ρ[i]? = some s → ∃ v, σ[i]? = some v ∧ SlOk K T.dc G.O H s v
  sep : ∀ (i j : Nat) (s t : Sl) (a : Addr), i ≠ j → ρ[i]? = some s → ρ[j]? = some t → s.owned = true → t.owned = true → σ[i]? = some (some (.ref a)) → σ[j]? = some (some (.ref a)) → False
  tab : TOk T H
  ext : ExtN G.Hb (hide G.O H)
  dom : ∀ a ∈ G.O, ∃ o, H a = some o ∧ ∀ ps, o ≠ .tbl ps
  fly : ∀ p ∈ G.fl, p.1 ∈ G.O ∧ H p.1 = some p.2
  dcs : ∀ a ∈ T.dc, a ∈ G.O ∧ (∃ x y z, H a = some (.lst [.int x, .int y, .int z])) ∧ ∀ q ∈ G.fl, q.1 ≠ a

section
variable {T : Tb} {K : PySem.W.Frag} {G : Gh} {ρ : En} {σ : L2.St} {H H' : Hp}
theorem SlOk.ext {D0 O : List Addr} {s : Sl} {v : Option V} (h : SlOk K D0 O H s v) (e : ExtN (hide O H) (hide O H')) (ho : ∀ a ∈ O, a ∉ D0 → H' a = H a) : SlOk K D0 O H' s v := by
  cases s with
  | un => trivial
  | sh d => obtain ⟨x, h1, h2⟩ := h; exact ⟨x, h1, h2.ext e⟩
  | ol ds => obtain ⟨a, vs, h1, h2, h3, h4⟩ := h; exact ⟨a, vs, h1, h2, (ho a h2.1 h2.2).trans h3, h4.ext e⟩
  | ok ds => obtain ⟨a, vs, h1, h2, h3, h4, h5⟩ := h; exact ⟨a, vs, h1, h2, (ho a h2.1 h2.2).trans h3, h4, h5.ext e⟩
  | ot ds => obtain ⟨a, vs, h1, h2, h3, h4, h5⟩ := h; exact ⟨a, vs, h1, h2, (ho a h2.1 h2.2).trans h3, h4, h5.ext e⟩
  | dice => exact h
  | scr ns => obtain ⟨a, h1, h2⟩ := h; exact ⟨a, h1, sqL_ext e h2⟩
theorem Rep.stepD (R : Rep T K G ρ σ H) (e : ExtN (hide G.O H) (hide G.O H')) (ho : ∀ a ∈ G.O, a ∉ T.dc → H' a = H a) (hd : ∀ a ∈ T.dc, ∃ x y z, H' a = some (.lst [.int x, .int y, .int z])) (t : TOk T H') : Rep T K G ρ σ H' where
  len := R.len
  slot i s h := by obtain ⟨v, h1, h2⟩ := R.slot i s h; exact ⟨v, h1, h2.ext e ho⟩
  sep := R.sep
  tab := t
  ext := R.ext.trans e
  dom a ha := by
    by_cases z : a ∈ T.dc
    · obtain ⟨x, y, z, h⟩ := hd a z; exact ⟨_, h, fun ps e => by cases e⟩
    · rw [ho a ha z]; exact R.dom a ha
  fly p hp := by obtain ⟨h1, h2⟩ := R.fly p hp; exact ⟨h1, (ho _ h1 fun z => (R.dcs _ z).2.2 p hp rfl).trans h2⟩
  dcs a ha := ⟨(R.dcs a ha).1, hd a ha, (R.dcs a ha).2.2⟩
theorem Rep.step (R : Rep T K G ρ σ H) (e : ExtN (hide G.O H) (hide G.O H')) (ho : ∀ a ∈ G.O, H' a = H a) (t : TOk T H') : Rep T K G ρ σ H' :=
  R.stepD e (fun a ha _ => ho a ha) (fun a ha => by obtain ⟨h1, h2, _⟩ := R.dcs a ha; rw [ho a h1]; exact h2) t
/-- objects are laid -/
theorem Rep.alloc (R : Rep T K G ρ σ H) (e : ∀ b o, H b = some o → H' b = some o) : Rep T K G ρ σ H' :=
  R.step (ext_hide fun b o _ h _ => e b o h) (fun a ha => by obtain ⟨o, h, _⟩ := R.dom a ha; rw [h, e _ _ h]) (R.tab.keep e)
theorem Rep.rebase (R : Rep T K G ρ σ H) : Rep T K ⟨hide G.O H, G.O, G.fl⟩ ρ σ H := ⟨R.len, R.slot, R.sep, R.tab, ExtN.refl _, R.dom, R.fly, R.dcs⟩
theorem Rep.unbase {Hb : Hp} (R : Rep T K ⟨Hb, G.O, G.fl⟩ ρ σ H) (e : ExtN G.Hb Hb) : Rep T K G ρ σ H := ⟨R.len, R.slot, R.sep, R.tab, e.trans R.ext, R.dom, R.fly, R.dcs⟩
end

/-! ### expressions -/
/-- an exception: its class, its field -/
structure Exn where
  cls : Addr
  fld : Option (Str × PyData)
def ExR (K : PySem.W.Frag) (x : Exn) (cls : Value) (dd : Option Addr) (H : Hp) : Prop := cls = .ref x.cls ∧ match x.fld with
  | none => dd = none
  | some (f, d) => ∃ a v, dd = some a ∧ H a = some (.xd [(f, v)]) ∧ Da K H v d
abbrev PW := En → (PyData → Prop) → (Exn → Prop) → Prop
abbrev PWB := En → (Bool → Prop) → (Exn → Prop) → Prop
abbrev PWs := En → (List PyData → Prop) → (Exn → Prop) → Prop

section
variable (T : Tb) (K : PySem.W.Frag) (W : WX)
/-- what an exception does -/
def exOut (G : Gh) (ρ : En) (σ : L2.St) : Exn → Prop := fun x => ∀ H' cls dd, Rep T K G ρ σ H' → ExR K x cls dd (hide G.O H') → W cls dd σ H'
def lift (w : PW) : TE := fun σ H Q => ∃ G ρ, Rep T K G ρ σ H ∧ w ρ (fun d => ∀ v H', Rep T K G ρ σ H' → Da K (hide G.O H') v d → Q v H') (exOut T K W G ρ σ)
def liftB (w : PWB) : TT := fun σ H Q => ∃ G ρ, Rep T K G ρ σ H ∧ w ρ (fun b => ∀ H', Rep T K G ρ σ H' → Q b H') (exOut T K W G ρ σ)
def liftA (w : PWs) : TA := fun σ H Q => ∃ G ρ, Rep T K G ρ σ H ∧ w ρ (fun ds => ∀ vs H', Rep T K G ρ σ H' → DaAll K (hide G.O H') vs ds → Q vs H') (exOut T K W G ρ σ)
/-- a new object, ours -/
def Apt (ρ : En) (σ : L2.St) (a : Addr) : Prop := ∀ (i : Nat) (s : Sl), ρ[i]? = some s → s.owned = true → σ[i]? ≠ some (some (.ref a))
/-- a new list, ours -/
def liftF (w : PW) : TE := fun σ H Q => ∃ G ρ, Rep T K G ρ σ H ∧ w ρ (fun d => ∀ a vs ds H', d = .list ds → Rep T K ⟨G.Hb, a :: G.O, G.fl⟩ ρ σ H' → a ∉ G.O → Apt ρ σ a → H' a = some (.lst vs) → DaAll K (hide (a :: G.O) H') vs ds → Q (.ref a) H') (exOut T K W G ρ σ)
/-- a value, or a list or dict of ours that is read only -/
inductive Top (D0 O : List Addr) (H : Hp) : V → PyData → Prop
  | sh {v : V} {d : PyData} : Da K (hide O H) v d → Top D0 O H v d
  | ol {a : Addr} {vs : List V} {ds : List PyData} : a ∈ O → H a = some (.lst vs) → DaAll K (hide O H) vs ds → a ∉ D0 → Top D0 O H (.ref a) (.list ds)
  | ok {a : Addr} {vs : List (Key × V)} {ds : List PyData} : a ∈ O → H a = some (.dK vs) → DaAll K (hide O H) (vs.map (·.2)) ds → a ∉ D0 → Top D0 O H (.ref a) (.dict ((vs.map fun p => keyD p.1).zip ds))
  | ot {a : Addr} {vs : List (List Key × V)} {ds : List PyData} : a ∈ O → H a = some (.dT vs) → DaAll K (hide O H) (vs.map (·.2)) ds → a ∉ D0 → Top D0 O H (.ref a) (.dict ((vs.map fun p => .tuple (p.1.map keyD)).zip ds))
def liftR (w : PW) : TE := fun σ H Q => ∃ G ρ, Rep T K G ρ σ H ∧ w ρ (fun d => ∀ v H', Rep T K G ρ σ H' → Top K T.dc G.O H' v d → Q v H') (exOut T K W G ρ σ)
end
def Mono {α : Type} (w : En → (α → Prop) → (Exn → Prop) → Prop) : Prop := ∀ ρ Q Q' E E', (∀ d, Q d → Q' d) → (∀ x, E x → E' x) → w ρ Q E → w ρ Q' E'

structure DE (T : Tb) (X : Cx) (W : WX) (e : Expr) (w : PW) : Prop where
  pe : PE X e (lift T X.K W w)
  mono : Mono w
structure DT (T : Tb) (X : Cx) (W : WX) (e : Expr) (w : PWB) : Prop where
  pt : PT X e (liftB T X.K W w)
  mono : Mono w
structure DA (T : Tb) (X : Cx) (W : WX) (es : List Expr) (w : PWs) : Prop where
  pa : PA X es (liftA T X.K W w)
  mono : Mono w
structure DF (T : Tb) (X : Cx) (W : WX) (e : Expr) (w : PW) : Prop where
  pe : PE X e (liftF T X.K W w)
  mono : Mono w

structure DR (T : Tb) (X : Cx) (W : WX) (e : Expr) (w : PW) : Prop where
  pe : PE X e (liftR T X.K W w)
  mono : Mono w

theorem pe_mono {X : Cx} {e : Expr} {t t' : TE} (h : PE X e t) (i : ∀ σ H Q, t' σ H Q → t σ H Q) : PE X e t' := ⟨fun pins s σ H Q I q => h.run pins s σ H Q I (i _ _ _ q)⟩
theorem pt_mono {X : Cx} {e : Expr} {t t' : TT} (h : PT X e t) (i : ∀ σ H Q, t' σ H Q → t σ H Q) : PT X e t' := ⟨fun pins s σ H Q I q => h.run pins s σ H Q I (i _ _ _ q)⟩

section
variable {T : Tb} {X : Cx} {W : WX} {K : PySem.W.Frag} {G : Gh} {ρ : En} {σ : L2.St} {H : Hp}
/-- going on: what is behind knows how the heap grew -/
theorem lift_intro {w : PW} {R : VK} (m : Mono w) (r : Rep T K G ρ σ H)
    (h : w ρ (fun d => ∀ v H', Rep T K G ρ σ H' → ExtN (hide G.O H) (hide G.O H') → Da K (hide G.O H') v d → R v H') (exOut T K W G ρ σ)) : lift T K W w σ H R :=
  ⟨⟨hide G.O H, G.O, G.fl⟩, ρ, r.rebase, m _ _ _ _ _ (fun d hd v H' r' a => hd v H' (r'.unbase r.ext) r'.ext a) (fun x hx H' cls dd r' q => hx H' cls dd (r'.unbase r.ext) q) h⟩
/-- what is in flight stays -/
theorem Rep.fly1 {a : Addr} {o : HO} (r : Rep T K G ρ σ H) (ha : a ∈ G.O) (h : H a = some o) (nd : a ∉ T.dc) : Rep T K ⟨G.Hb, G.O, (a, o) :: G.fl⟩ ρ σ H :=
  ⟨r.len, r.slot, r.sep, r.tab, r.ext, r.dom, fun p hp => by
    rcases List.mem_cons.mp hp with e | hp
    · rw [e]; exact ⟨ha, h⟩
    · exact r.fly p hp, fun b hb => ⟨(r.dcs b hb).1, (r.dcs b hb).2.1, fun q hq => by
    rcases List.mem_cons.mp hq with e | hq
    · rw [e]; exact fun z => nd (by rw [show a = b from z]; exact hb)
    · exact (r.dcs b hb).2.2 q hq⟩⟩
theorem Rep.land {p : Addr × HO} {Hb : Hp} {O : List Addr} {fl : List (Addr × HO)} (r : Rep T K ⟨Hb, O, p :: fl⟩ ρ σ H) : Rep T K ⟨Hb, O, fl⟩ ρ σ H ∧ H p.1 = some p.2 :=
  ⟨⟨r.len, r.slot, r.sep, r.tab, r.ext, r.dom, fun q hq => r.fly q (List.mem_cons_of_mem _ hq), fun b hb => ⟨(r.dcs b hb).1, (r.dcs b hb).2.1, fun q hq => (r.dcs b hb).2.2 q (List.mem_cons_of_mem _ hq)⟩⟩, (r.fly p List.mem_cons_self).2⟩
theorem liftR_intro {w : PW} {R : VK} (m : Mono w) (r : Rep T K G ρ σ H)
    (h : w ρ (fun d => ∀ v H', Rep T K G ρ σ H' → ExtN (hide G.O H) (hide G.O H') → Top K T.dc G.O H' v d → R v H') (exOut T K W G ρ σ)) : liftR T K W w σ H R :=
  ⟨⟨hide G.O H, G.O, G.fl⟩, ρ, r.rebase, m _ _ _ _ _ (fun d hd v H' r' a => hd v H' (r'.unbase r.ext) r'.ext a) (fun x hx H' cls dd r' q => hx H' cls dd (r'.unbase r.ext) q) h⟩
theorem liftF_intro {w : PW} {R : VK} (m : Mono w) (r : Rep T K G ρ σ H)
    (h : w ρ (fun d => ∀ a vs ds H', d = .list ds → Rep T K ⟨G.Hb, a :: G.O, G.fl⟩ ρ σ H' → ExtN (hide G.O H) (hide (a :: G.O) H') → a ∉ G.O → Apt ρ σ a → H' a = some (.lst vs) → DaAll K (hide (a :: G.O) H') vs ds → R (.ref a) H') (exOut T K W G ρ σ)) : liftF T K W w σ H R :=
  ⟨⟨hide G.O H, G.O, G.fl⟩, ρ, r.rebase, m _ _ _ _ _ (fun d hd a vs ds H' e r' na ap x y => hd a vs ds H' e (r'.unbase (G := ⟨G.Hb, a :: G.O, G.fl⟩) r.ext) r'.ext na ap x y) (fun x hx H' cls dd r' q => hx H' cls dd (r'.unbase r.ext) q) h⟩
theorem liftB_intro {w : PWB} {R : Bool → Hp → Prop} (m : Mono w) (r : Rep T K G ρ σ H)
    (h : w ρ (fun b => ∀ H', Rep T K G ρ σ H' → ExtN (hide G.O H) (hide G.O H') → R b H') (exOut T K W G ρ σ)) : liftB T K W w σ H R :=
  ⟨⟨hide G.O H, G.O, G.fl⟩, ρ, r.rebase, m _ _ _ _ _ (fun d hd H' r' => hd H' (r'.unbase r.ext) r'.ext) (fun x hx H' cls dd r' q => hx H' cls dd (r'.unbase r.ext) q) h⟩
theorem liftA_intro {w : PWs} {R : List V → Hp → Prop} (m : Mono w) (r : Rep T K G ρ σ H)
    (h : w ρ (fun ds => ∀ vs H', Rep T K G ρ σ H' → ExtN (hide G.O H) (hide G.O H') → DaAll K (hide G.O H') vs ds → R vs H') (exOut T K W G ρ σ)) : liftA T K W w σ H R :=
  ⟨⟨hide G.O H, G.O, G.fl⟩, ρ, r.rebase, m _ _ _ _ _ (fun d hd vs H' r' a => hd vs H' (r'.unbase r.ext) r'.ext a) (fun x hx H' cls dd r' q => hx H' cls dd (r'.unbase r.ext) q) h⟩
end
end PL
set_option Elab.async false
set_option linter.all false
set_option maxRecDepth 100000
set_option maxHeartbeats 2000000
namespace PL
open PySem PySem.Spec PyProof.Rows L2
open LamX (ExtN Tabs TabS)
section
variable {T : Tb} {K : PySem.W.Frag} {G : Gh} {ρ : En} {σ : L2.St} {H H' : Hp}
theorem Rep.drop {a : Addr} (r0 : Rep T K G ρ σ H) (r : Rep T K ⟨G.Hb, a :: G.O, G.fl⟩ ρ σ H') (ap : Apt ρ σ a) : Rep T K G ρ σ H' where
  len := r.len
  slot i s h := by
    obtain ⟨v, h1, h2⟩ := r.slot i s h
    have e : ExtN (hide (a :: G.O) H') (hide G.O H') := ext_sub fun b hb => List.mem_cons_of_mem _ hb
    have mem : ∀ b, s.owned = true → v = some (.ref b) → Own T.dc (a :: G.O) b → Own T.dc G.O b := fun b ho ev hb => ⟨by
      rcases List.mem_cons.mp hb.1 with z | z
      · rw [ev, z] at h1
        exact absurd h1 (ap i s h ho)
      · exact z, hb.2⟩
    refine ⟨v, h1, ?_⟩
    cases s with
    | un => trivial
    | sh d => obtain ⟨x, h3, h4⟩ := h2; exact ⟨x, h3, h4.ext e⟩
    | ol ds => obtain ⟨b, vs, h3, h4, h5, h6⟩ := h2; exact ⟨b, vs, h3, mem b rfl h3 h4, h5, h6.ext e⟩
    | ok ds => obtain ⟨b, vs, h3, h4, h5, h6, h7⟩ := h2; exact ⟨b, vs, h3, mem b rfl h3 h4, h5, h6, h7.ext e⟩
    | ot ds => obtain ⟨b, vs, h3, h4, h5, h6, h7⟩ := h2; exact ⟨b, vs, h3, mem b rfl h3 h4, h5, h6, h7.ext e⟩
    | dice => exact h2
    | scr ns => obtain ⟨b, h3, h4⟩ := h2; exact ⟨b, h3, sqL_ext e h4⟩
  sep := r.sep
  tab := r.tab
  ext := r.ext.trans (ext_sub fun b hb => List.mem_cons_of_mem _ hb)
  dom b hb := r.dom b (List.mem_cons_of_mem _ hb)
  fly p hp := ⟨(r0.fly p hp).1, (r.fly p hp).2⟩
  dcs b hb := ⟨(r0.dcs b hb).1, (r.dcs b hb).2⟩
/-- a new list is laid, ours -/
theorem Rep.own {a : Addr} {o : HO} (r : Rep T K G ρ σ H) (h : H a = none) (ho : ∀ ps, o ≠ .tbl ps) : Rep T K ⟨G.Hb, a :: G.O, G.fl⟩ ρ σ (upd H a o) ∧ hide (a :: G.O) (upd H a o) = hide G.O H ∧ a ∉ G.O ∧ Apt ρ σ a := by
  have na : a ∉ G.O := fun z => by obtain ⟨o, e, _⟩ := r.dom a z; rw [h] at e; cases e
  have eh : hide (a :: G.O) (upd H a o) = hide G.O H := hide_new h
  have at_ : ∀ b ∈ G.O, upd H a o b = H b := fun b hb => upd_ne fun z => na (by rw [← z]; exact hb)
  have al : ∀ b o', H b = some o' → upd H a o b = some o' := fun b o' e => by rw [upd_ne (ne_of_none e h)]; exact e
  refine ⟨⟨r.len, fun i s hs => ?_, r.sep, r.tab.keep al, by rw [eh]; exact r.ext, fun b hb => ?_, fun p hp => ?_, fun b hb => ⟨List.mem_cons_of_mem _ (r.dcs b hb).1, by rw [at_ b (r.dcs b hb).1]; exact (r.dcs b hb).2.1, (r.dcs b hb).2.2⟩⟩, eh, na, fun i s hs hw e => ?_⟩
  · obtain ⟨v, h1, h2⟩ := r.slot i s hs
    refine ⟨v, h1, ?_⟩
    cases s with
    | un => trivial
    | sh d => obtain ⟨x, h3, h4⟩ := h2; exact ⟨x, h3, by rw [eh]; exact h4⟩
    | ol ds => obtain ⟨b, vs, h3, h4, h5, h6⟩ := h2; exact ⟨b, vs, h3, ⟨List.mem_cons_of_mem _ h4.1, h4.2⟩, (at_ b h4.1).trans h5, by rw [eh]; exact h6⟩
    | ok ds => obtain ⟨b, vs, h3, h4, h5, h6, h7⟩ := h2; exact ⟨b, vs, h3, ⟨List.mem_cons_of_mem _ h4.1, h4.2⟩, (at_ b h4.1).trans h5, h6, by rw [eh]; exact h7⟩
    | ot ds => obtain ⟨b, vs, h3, h4, h5, h6, h7⟩ := h2; exact ⟨b, vs, h3, ⟨List.mem_cons_of_mem _ h4.1, h4.2⟩, (at_ b h4.1).trans h5, h6, by rw [eh]; exact h7⟩
    | dice => exact h2
    | scr ns => obtain ⟨b, h3, h4⟩ := h2; exact ⟨b, h3, by rw [eh]; exact h4⟩
  · rcases List.mem_cons.mp hb with z | z
    · rw [z, upd_same]; exact ⟨o, rfl, ho⟩
    · rw [at_ b z]; exact r.dom b z
  · obtain ⟨h1, h2⟩ := r.fly p hp
    exact ⟨List.mem_cons_of_mem _ h1, (at_ _ h1).trans h2⟩
  · obtain ⟨v, h1, h2⟩ := r.slot i s hs
    rw [e] at h1
    cases h1
    have : a ∈ G.O := by
      cases s with
      | un => cases hw
      | sh d => cases hw
      | ol ds => obtain ⟨b, vs, h3, h4, _⟩ := h2; cases h3; exact h4.1
      | ok ds => obtain ⟨b, vs, h3, h4, _⟩ := h2; cases h3; exact h4.1
      | ot ds => obtain ⟨b, vs, h3, h4, _⟩ := h2; cases h3; exact h4.1
      | dice => obtain ⟨b, h3, h4⟩ := h2; cases h3; exact (r.dcs _ h4).1
      | scr ns => cases hw
    exact na this
theorem Top.ext {D0 O : List Addr} {v : V} {d : PyData} (h : Top K D0 O H v d) (e : ExtN (hide O H) (hide O H')) (hv : ∀ a, v = .ref a → a ∈ O → a ∉ D0 → H' a = H a) : Top K D0 O H' v d := by
  cases h with
  | sh h => exact .sh (h.ext e)
  | ol h1 h2 h3 h4 => exact .ol h1 ((hv _ rfl h1 h4).trans h2) (h3.ext e) h4
  | ok h1 h2 h3 h4 => exact .ok h1 ((hv _ rfl h1 h4).trans h2) (h3.ext e) h4
  | ot h1 h2 h3 h4 => exact .ot h1 ((hv _ rfl h1 h4).trans h2) (h3.ext e) h4
/-- without regard to whose it is -/
theorem Top.da {D0 O : List Addr} {v : V} {ds : List PyData} (h : Top K D0 O H v (.list ds)) : ∃ a vs, v = .ref a ∧ H a = some (.lst vs) ∧ DaAll K (hide O H) vs ds := by
  cases h with
  | sh h => cases h with
    | lst h1 h2 => exact ⟨_, _, rfl, (hide_some h1).2, h2⟩
  | ol h1 h2 h3 => exact ⟨_, _, rfl, h2, h3⟩
theorem Da.whole {O : List Addr} {v : V} {d : PyData} (h : Da K (hide O H) v d) : Da K H v d := h.ext fun b o e _ => (hide_some e).2
theorem DaAll.whole {O : List Addr} {vs : List V} {ds : List PyData} (h : DaAll K (hide O H) vs ds) : DaAll K H vs ds := h.ext fun b o e _ => (hide_some e).2
theorem Top.whole {D0 O : List Addr} {v : V} {d : PyData} (h : Top K D0 O H v d) (p : PyData.plain d = true) : Da K H v d := by
  cases h with
  | sh h => exact h.whole
  | ol h1 h2 h3 => exact .lst h2 h3.whole
  | ok h1 h2 h3 => simp [PyData.plain] at p
  | ot h1 h2 h3 => simp [PyData.plain] at p
end

section
variable {T : Tb} {X : Cx} {W : WX} {pos : Pos} {e a b : Expr}
/-! ### names, constants -/
def wVar (i : Nat) : PW := fun ρ Q _ => match ρ[i]? with
  | some (.sh d) => Q d
  | _ => False
def wRd (i : Nat) : PW := fun ρ Q _ => match ρ[i]? with
  | some (.sh d) => Q d
  | some (.ol ds) => Q (.list ds)
  | some (.ok kvs) => Q (.dict (kvs.map fun p => (keyD p.1, p.2)))
  | some (.ot kvs) => Q (.dict (kvs.map fun p => (.tuple (p.1.map keyD), p.2)))
  | _ => False
def wC (d : PyData) : PW := fun _ Q _ => Q d
theorem mono_C {d : PyData} : Mono (wC d) := fun _ _ _ _ _ hq _ h => hq _ h
theorem mono_var {i : Nat} : Mono (wVar i) := fun ρ Q Q' E E' hq _ h => by
  unfold wVar at h ⊢
  split at h
  · exact hq _ h
  · exact h
theorem mono_rd {i : Nat} : Mono (wRd i) := fun ρ Q Q' E E' hq _ h => by
  unfold wRd at h ⊢
  split at h
  · exact hq _ h
  · exact hq _ h
  · exact hq _ h
  · exact hq _ h
  · exact h
theorem de_var (i : Nat) (p : PE X e (tVar i)) : DE T X W e (wVar i) := ⟨pe_mono p fun σ H Q h => by
  obtain ⟨G, ρ, r, h⟩ := h
  unfold wVar at h
  split at h
  · rename_i d hd
    obtain ⟨v, h1, x, h2, h3⟩ := r.slot i _ hd
    rw [h2] at h1
    exact ⟨x, h1, h x H r h3⟩
  · exact h.elim, mono_var⟩
theorem zip_map {α : Type} (f : α → PyData) : ∀ (vs : List (α × V)) (kvs : List (α × PyData)), vs.map (·.1) = kvs.map (·.1) → (vs.map fun p => f p.1).zip (kvs.map (·.2)) = kvs.map fun p => (f p.1, p.2)
  | [], [], _ => rfl
  | [], _ :: _, h => by cases h
  | _ :: _, [], h => by cases h
  | p :: r, q :: t, h => by
    injection h with h1 h2
    simp only [List.map_cons, List.zip_cons_cons, h1, zip_map f r t h2]
theorem dr_var (i : Nat) (p : PE X e (tVar i)) : DR T X W e (wRd i) := ⟨pe_mono p fun σ H Q h => by
  obtain ⟨G, ρ, r, h⟩ := h
  unfold wRd at h
  split at h
  · rename_i d hd
    obtain ⟨v, h1, x, h2, h3⟩ := r.slot i _ hd
    rw [h2] at h1
    exact ⟨x, h1, h x H r (.sh h3)⟩
  · rename_i d hd
    obtain ⟨v, h1, a, vs, h2, h3, h4, h5⟩ := r.slot i _ hd
    rw [h2] at h1
    exact ⟨_, h1, h _ H r (.ol h3.1 h4 h5 h3.2)⟩
  · rename_i d hd
    obtain ⟨v, h1, a, vs, h2, h3, h4, h5, h6⟩ := r.slot i _ hd
    rw [h2] at h1
    refine ⟨_, h1, h _ H r ?_⟩
    rw [← zip_map keyD vs d h5]
    exact .ok h3.1 h4 h6 h3.2
  · rename_i d hd
    obtain ⟨v, h1, a, vs, h2, h3, h4, h5, h6⟩ := r.slot i _ hd
    rw [h2] at h1
    refine ⟨_, h1, h _ H r ?_⟩
    rw [← zip_map (fun k => .tuple (k.map keyD)) vs d h5]
    exact .ot h3.1 h4 h6 h3.2
  · exact h.elim, mono_rd⟩
theorem de_c {v : V} {d : PyData} (p : PE X e (tC v)) (h : ∀ H, Da X.K H v d) : DE T X W e (wC d) := ⟨pe_mono p fun σ H Q q => by
  obtain ⟨G, ρ, r, q⟩ := q
  exact q v H r (h _), mono_C⟩
theorem de_int {i j} : DE T X W (.Constant (.int i) j pos) (wC (.int i)) := de_c pe_int fun _ => .int i
theorem de_bl {b j} : DE T X W (.Constant (.bool b) j pos) (wC (.bool b)) := de_c pe_bl fun _ => .bl b
theorem de_non {j} : DE T X W (.Constant .none j pos) (wC .none) := de_c pe_non fun _ => .non
theorem de_str {x j} : DE T X W (.Constant (.str x) j pos) (wC (.str x)) := de_c pe_str fun _ => .str x
/-! ### from one to the other -/
theorem dr_of {w : PW} (h : DE T X W e w) : DR T X W e w := ⟨pe_mono h.pe fun σ H Q q => by
  obtain ⟨G, ρ, r, q⟩ := q
  exact ⟨G, ρ, r, h.mono _ _ _ _ _ (fun d hd v H' r' a => hd v H' r' (.sh a)) (fun _ z => z) q⟩, h.mono⟩
def wL (w : PW) : PW := fun ρ Q E => w ρ (fun d => match d with | .list ds => Q (.list ds) | _ => False) E
theorem mono_L {w : PW} (m : Mono w) : Mono (wL w) := fun ρ Q Q' E E' hq he h => m _ _ _ _ _ (fun d hd => by cases d <;> first | exact hq _ hd | exact hd) he h
theorem de_fresh {w : PW} (h : DF T X W e w) : DE T X W e w := ⟨pe_mono h.pe fun σ H Q q => by
  obtain ⟨G, ρ, r, q⟩ := q
  refine ⟨G, ρ, r, h.mono _ _ _ _ _ (fun d hd a vs ds H' ed r' na ap h1 h2 => ?_) (fun _ z => z) q⟩
  subst ed
  exact hd _ H' (r.drop r' ap) (.lst (by rw [hide_out na]; exact h1) (h2.ext (ext_sub fun b hb => List.mem_cons_of_mem _ hb))), h.mono⟩
/-! ### two operands -/
def w2 (f : PyData → PyData → (PyData → Prop) → Prop) (wa wb : PW) : PW := fun ρ Q E => wa ρ (fun x => wb ρ (fun y => f x y Q) E) E
def MonoF (f : PyData → PyData → (PyData → Prop) → Prop) : Prop := ∀ x y Q Q', (∀ d, Q d → Q' d) → f x y Q → f x y Q'
theorem mono_2 {f : PyData → PyData → (PyData → Prop) → Prop} {wa wb : PW} (mf : MonoF f) (ma : Mono wa) (mb : Mono wb) : Mono (w2 f wa wb) := fun ρ Q Q' E E' hq he h =>
  ma _ _ _ _ _ (fun x hx => mb _ _ _ _ _ (fun y hy => mf _ _ _ _ hq hy) he hx) he h
/-- what an operator does to data -/
def OpD (T : Tb) (X : Cx) (g : Value → Value → Sem Value) (f : PyData → PyData → (PyData → Prop) → Prop) : Prop :=
  OpR X g fun x y H Q => ∃ (G : Gh) (ρ : En) (σ : L2.St) (d e : PyData), Rep T X.K G ρ σ H ∧ Top X.K T.dc G.O H x d ∧ Top X.K T.dc G.O H y e ∧ f d e fun r => ∀ v H', Rep T X.K G ρ σ H' → Da X.K (hide G.O H') v r → Q v H'
/-- .. that makes a new list -/
def OpF (T : Tb) (X : Cx) (g : Value → Value → Sem Value) (f : PyData → PyData → (PyData → Prop) → Prop) : Prop :=
  OpR X g fun x y H Q => ∃ (G : Gh) (ρ : En) (σ : L2.St) (d e : PyData), Rep T X.K G ρ σ H ∧ Top X.K T.dc G.O H x d ∧ Top X.K T.dc G.O H y e ∧ f d e fun r => ∀ a vs ds H', r = .list ds → Rep T X.K ⟨G.Hb, a :: G.O, G.fl⟩ ρ σ H' → a ∉ G.O → Apt ρ σ a → H' a = some (.lst vs) → DaAll X.K (hide (a :: G.O) H') vs ds → Q (.ref a) H'
theorem both {K : PySem.W.Frag} {G : Gh} {ρ : En} {σ : L2.St} {H : Hp} {wa wb : PW} {P : PyData → PyData → Prop} {R : V → V → Hp → Prop} (ma : Mono wa) (mb : Mono wb) (r : Rep T K G ρ σ H)
    (hP : ∀ v u H' x y, Rep T K G ρ σ H' → ExtN (hide G.O H) (hide G.O H') → Top K T.dc G.O H' v x → Top K T.dc G.O H' u y → P x y → R v u H')
    (h : wa ρ (fun x => wb ρ (P x) (exOut T K W G ρ σ)) (exOut T K W G ρ σ)) : liftR T K W wa σ H fun v H1 => liftR T K W wb σ H1 fun u H2 => R v u H2 := by
  refine liftR_intro ma r (ma _ _ _ _ _ (fun x hx v H1 r1 e1 t1 => ?_) (fun _ z => z) h)
  by_cases own : ∃ a o, v = .ref a ∧ a ∈ G.O ∧ a ∉ T.dc ∧ H1 a = some o
  · obtain ⟨a, o, ev, ha, nd, ho⟩ := own
    refine liftR_intro (G := ⟨G.Hb, G.O, (a, o) :: G.fl⟩) mb (r1.fly1 ha ho nd) (mb _ _ _ _ _ (fun y hy u H2 r2 e2 t2 => ?_) (fun ex hex H' cls dd r' q => hex H' cls dd r'.land.1 q) hx)
    obtain ⟨r2', k⟩ := r2.land
    exact hP v u H2 x y r2' (e1.trans e2) (t1.ext e2 fun b eb hb _ => by rw [ev] at eb; cases eb; rw [show H2 a = some o from k, ho]) t2 hy
  · refine liftR_intro mb r1 (mb _ _ _ _ _ (fun y hy u H2 r2 e2 t2 => ?_) (fun _ z => z) hx)
    exact hP v u H2 x y r2 (e1.trans e2) (t1.ext e2 fun b eb hb nd => by
      obtain ⟨o, ho, _⟩ := r1.dom b hb
      exact absurd ⟨b, o, eb, hb, nd, ho⟩ own) t2 hy
theorem de_op {op : Operator} {f : PyData → PyData → (PyData → Prop) → Prop} {wa wb : PW} (ho : OpD T X (binaryOp op) f) (mf : MonoF f) (ha : DR T X W a wa) (hb : DR T X W b wb) : DE T X W (.BinOp a op b pos) (w2 f wa wb) :=
  ⟨pe_mono (pe_op ho ha.pe hb.pe) fun σ H Q q => by
    obtain ⟨G, ρ, r, q⟩ := q
    exact both (P := fun x y => f x y fun d => ∀ v H', Rep T X.K G ρ σ H' → Da X.K (hide G.O H') v d → Q v H') ha.mono hb.mono r (fun v u H' x y r' e tv tu p => ⟨G, ρ, σ, x, y, r', tv, tu, p⟩) q, mono_2 mf ha.mono hb.mono⟩
theorem df_op {op : Operator} {f : PyData → PyData → (PyData → Prop) → Prop} {wa wb : PW} (ho : OpF T X (binaryOp op) f) (mf : MonoF f) (ha : DR T X W a wa) (hb : DR T X W b wb) : DF T X W (.BinOp a op b pos) (w2 f wa wb) :=
  ⟨pe_mono (pe_op ho ha.pe hb.pe) fun σ H Q q => by
    obtain ⟨G, ρ, r, q⟩ := q
    exact both ha.mono hb.mono r (fun v u H' x y r' e tv tu p => ⟨G, ρ, σ, x, y, r', tv, tu, p⟩) q, mono_2 mf ha.mono hb.mono⟩
theorem de_cmp {op : CmpOp} {f : PyData → PyData → (PyData → Prop) → Prop} {wa wb : PW} (ho : OpD T X (compareOp op) f) (mf : MonoF f) (ha : DR T X W a wa) (hb : DR T X W b wb) (hm : behindInMarks op b = false) : DE T X W (.Compare a [op] [b] pos) (w2 f wa wb) :=
  ⟨pe_mono (pe_cmpR ho ha.pe hb.pe hm) fun σ H Q q => by
    obtain ⟨G, ρ, r, q⟩ := q
    exact both (P := fun x y => f x y fun d => ∀ v H', Rep T X.K G ρ σ H' → Da X.K (hide G.O H') v d → Q v H') ha.mono hb.mono r (fun v u H' x y r' e tv tu p => ⟨G, ρ, σ, x, y, r', tv, tu, p⟩) q, mono_2 mf ha.mono hb.mono⟩
end
end PL
set_option Elab.async false
set_option linter.all false
set_option maxRecDepth 100000
set_option maxHeartbeats 2000000
namespace PL
open PySem PySem.Spec PyProof.Rows L2
open LamX (ExtN Tabs TabS)
section
variable {K : PySem.W.Frag} {D0 O : List Addr} {H : Hp} {v : V}
theorem Top.int {i : Int} (h : Top K D0 O H v (.int i)) : v = .int i := by cases h with | sh h => cases h; rfl
theorem Top.str {x : Str} (h : Top K D0 O H v (.str x)) : v = .str x := by cases h with | sh h => cases h; rfl
theorem Top.bl {x : Bool} (h : Top K D0 O H v (.bool x)) : v = .bl x := by cases h with | sh h => cases h; rfl
theorem Top.non (h : Top K D0 O H v .none) : v = .non := by cases h with | sh h => cases h; rfl
theorem sqT_whole {a : Addr} {xs : List V} (h : SqT K (hide O H) a xs) : SqT K H a xs := sqT_ext (fun b o e _ => (hide_some e).2) h
theorem Top.tup {ds : List PyData} (h : Top K D0 O H v (.tuple ds)) : ∃ a xs, v = .ref a ∧ Da K (hide O H) (.ref a) (.tuple ds) ∧ SqT K H a xs ∧ DaAll K (hide O H) xs ds := by
  cases h with
  | sh h => cases h with
    | tup h1 h2 => exact ⟨_, _, rfl, .tup h1 h2, SqT.of (hide_some h1).2, h2⟩
    | ftup h1 h2 h3 h4 => exact ⟨_, _, rfl, .ftup h1 h2 h3 h4, .inl (.inr ⟨_, (hide_some h1).2⟩), h4⟩
theorem Da.seq {ds : List PyData} (h : Da K H v (.tuple ds)) : ∃ a xs, v = .ref a ∧ SqT K H a xs ∧ DaAll K H xs ds := by
  cases h with
  | tup h1 h2 => exact ⟨_, _, rfl, SqT.of h1, h2⟩
  | ftup h1 _ _ h4 => exact ⟨_, _, rfl, .inl (.inr ⟨_, h1⟩), h4⟩
theorem Da.int_ {i : Int} (h : Da K H v (.int i)) : v = .int i := by cases h; rfl
theorem Da.str_ {x : Str} (h : Da K H v (.str x)) : v = .str x := by cases h; rfl
theorem Da.bl_ {x : Bool} (h : Da K H v (.bool x)) : v = .bl x := by cases h; rfl
end
section
variable {T : Tb} {X : Cx} {W : WX} {pos : Pos} {e a b : Expr} {K : PySem.W.Frag} {G : Gh} {ρ : En} {σ : L2.St} {H H' : Hp}
/-! ### operators -/
def fI (C : Int → Int → Prop) (g : Int → Int → Int) : PyData → PyData → (PyData → Prop) → Prop
  | .int i, .int j, Q => C i j ∧ Q (.int (g i j))
  | _, _, _ => False
theorem mono_fI {C : Int → Int → Prop} {g : Int → Int → Int} : MonoF (fI C g) := fun x y Q Q' hq h => by
  unfold fI at h ⊢
  split at h
  · exact ⟨h.1, hq _ h.2⟩
  · exact h
theorem opD_int {f : Value → Value → Sem Value} {C : Int → Int → Prop} {g : Int → Int → Int} (h : OpR X f (rI C fun i j => .int (g i j))) : OpD T X f (fI C g) := by
  intro pins s σ0 H x y v u Q I rx ry q
  obtain ⟨G, ρ, σ, d, e, r, tx, ty, q⟩ := q
  unfold fI at q
  split at q
  · rename_i i j
    exact h pins s σ0 H x y v u Q I rx ry ⟨i, j, tx.int, ty.int, q.1, q.2 _ H r (.int _)⟩
  · exact q.elim
abbrev CT : Int → Int → Prop := fun _ _ => True
theorem opD_sub : OpD T X (binaryOp .Sub) (fI CT fun i j => i - j) := opD_int fun pins s σ H x y v u Q I rx ry h => op_sub pins s σ H x y v u Q I rx ry (by obtain ⟨i, j, a, b, _, c⟩ := h; exact ⟨i, j, a, b, c⟩)
theorem opD_fdiv : OpD T X (binaryOp .FloorDiv) (fI CDiv fun i j => i / j) := opD_int op_fdiv
theorem opD_mod : OpD T X (binaryOp .Mod) (fI (fun _ j => 0 < j) fun i j => i % j) := opD_int op_mod
theorem opD_pow : OpD T X (binaryOp .Pow) (fI CPow fun i j => i ^ j.toNat) := opD_int op_pow
theorem iopD_sub : OpD T X (inplaceOp .Sub) (fI CT fun i j => i - j) := opD_int fun pins s σ H x y v u Q I rx ry h => iop_sub pins s σ H x y v u Q I rx ry (by obtain ⟨i, j, a, b, _, c⟩ := h; exact ⟨i, j, a, b, c⟩)

def fAdd : PyData → PyData → (PyData → Prop) → Prop
  | .int i, .int j, Q => Q (.int (i + j))
  | .str x, .str y, Q => x.length + y.length ≤ sizeLine ∧ Q (.str (x ++ y))
  | .tuple xs, .tuple ys, Q => xs.length + ys.length ≤ sizeLine ∧ Q (.tuple (xs ++ ys))
  | _, _, _ => False
theorem mono_add : MonoF fAdd := fun x y Q Q' hq h => by
  unfold fAdd at h ⊢
  split at h
  · exact hq _ h
  · exact ⟨h.1, hq _ h.2⟩
  · exact ⟨h.1, hq _ h.2⟩
  · exact h
theorem Rep.new (r : Rep T K G ρ σ H) {p : Addr} {o : HO} (h : H p = none) : Rep T K G ρ σ (upd H p o) ∧ ExtN (hide G.O H) (hide G.O (upd H p o)) ∧ p ∉ G.O ∧ hide G.O (upd H p o) p = some o := by
  have np : p ∉ G.O := fun z => by obtain ⟨o, e, _⟩ := r.dom p z; rw [h] at e; cases e
  have al : ∀ b o', H b = some o' → upd H p o b = some o' := fun b o' e => by rw [upd_ne (ne_of_none e h)]; exact e
  exact ⟨r.alloc al, ext_hide fun b o' _ e _ => al b o' e, np, by rw [hide_out np, upd_same]⟩
theorem opD_add : OpD T X (binaryOp .Add) fAdd := by
  intro pins s σ0 H x y v u Q I rx ry q
  obtain ⟨G, ρ, σ, d, e, r, tx, ty, q⟩ := q
  unfold fAdd at q
  split at q
  · rename_i i j
    exact op_add pins s σ0 H x y v u Q I rx ry ⟨i, j, tx.int, ty.int, q _ H r (.int _)⟩
  · rename_i i j
    exact op_add_str pins s σ0 H x y v u Q I rx ry ⟨i, j, tx.str, ty.str, q.1, q.2 _ H r (.str _)⟩
  · obtain ⟨a, xs, rfl, ha', ha, hx⟩ := tx.tup
    obtain ⟨b, ys, rfl, hb', hb, hy⟩ := ty.tup
    refine op_catA pins s σ0 H _ _ v u Q I rx ry ⟨a, b, xs, ys, rfl, rfl, ha, hb, by rw [hx.length, hy.length]; exact q.1, fun ex => ?_, fun _ ey => ?_, fun _ _ p hp => ?_⟩
    · subst ex
      cases hx
      exact q.2 _ H r hb'
    · subst ey
      cases hy
      refine q.2 _ H r ?_
      rw [List.append_nil]
      exact ha'
    · obtain ⟨r', e', np, hh⟩ := r.new (o := .tup (xs ++ ys)) hp
      exact q.2 _ _ r' (.tup hh ((hx.append hy).ext e'))
  · exact q.elim
theorem iopD_addS : OpD T X (inplaceOp .Add) (fun x y Q => match x, y with | .int i, .int j => Q (.int (i + j)) | .str x, .str y => x.length + y.length ≤ sizeLine ∧ Q (.str (x ++ y)) | _, _ => False) := by
  intro pins s σ0 H x y v u Q I rx ry q
  obtain ⟨G, ρ, σ, d, e, r, tx, ty, q⟩ := q
  simp only at q
  split at q
  · rename_i i j
    exact iop_add pins s σ0 H x y v u Q I rx ry ⟨i, j, tx.int, ty.int, q _ H r (.int _)⟩
  · rename_i i j
    exact iop_add_str pins s σ0 H x y v u Q I rx ry ⟨i, j, tx.str, ty.str, q.1, q.2 _ H r (.str _)⟩
  · exact q.elim
/-- xs + ys, new -/
def fCat : PyData → PyData → (PyData → Prop) → Prop
  | .list xs, .list ys, Q => xs.length + ys.length ≤ sizeLine ∧ Q (.list (xs ++ ys))
  | _, _, _ => False
theorem mono_cat : MonoF fCat := fun x y Q Q' hq h => by
  unfold fCat at h ⊢
  split at h
  · exact ⟨h.1, hq _ h.2⟩
  · exact h
theorem Rep.newL (r : Rep T K G ρ σ H) {p : Addr} {vs : List V} {ds : List PyData} (h : H p = none) (a : DaAll K (hide G.O H) vs ds) :
    Rep T K ⟨G.Hb, p :: G.O, G.fl⟩ ρ σ (upd H p (.lst vs)) ∧ p ∉ G.O ∧ Apt ρ σ p ∧ upd H p (.lst vs) p = some (.lst vs) ∧ DaAll K (hide (p :: G.O) (upd H p (.lst vs))) vs ds := by
  obtain ⟨r', eh, na, ap⟩ := r.own (o := .lst vs) h (fun ps z => by cases z)
  exact ⟨r', na, ap, upd_same, by rw [eh]; exact a⟩
theorem opF_cat : OpF T X (binaryOp .Add) fCat := by
  intro pins s σ0 H x y v u Q I rx ry q
  obtain ⟨G, ρ, σ, d, e, r, tx, ty, q⟩ := q
  unfold fCat at q
  split at q
  · obtain ⟨a, xs, rfl, ha, hx⟩ := tx.da
    obtain ⟨b, ys, rfl, hb, hy⟩ := ty.da
    refine op_cat pins s σ0 H _ _ v u Q I rx ry ⟨a, b, xs, ys, rfl, rfl, ha, hb, by rw [hx.length, hy.length]; exact q.1, fun p hp => ?_⟩
    obtain ⟨r', na, ap, h1, h2⟩ := r.newL hp (hx.append hy)
    exact q.2 p _ _ _ rfl r' na ap h1 h2
  · exact q.elim
/-- xs * n, new -/
def fRep : PyData → PyData → (PyData → Prop) → Prop
  | .list xs, .int k, Q => (-(2 ^ 63) ≤ k ∧ k < 2 ^ 63 ∧ xs.length * k.toNat ≤ sizeLine) ∧ Q (.list (List.replicate k.toNat xs).flatten)
  | _, _, _ => False
theorem mono_rep : MonoF fRep := fun x y Q Q' hq h => by
  unfold fRep at h ⊢
  split at h
  · exact ⟨h.1, hq _ h.2⟩
  · exact h
theorem daAll_rep {vs : List V} {ds : List PyData} (h : DaAll K H vs ds) : ∀ n : Nat, DaAll K H (List.replicate n vs).flatten (List.replicate n ds).flatten
  | 0 => .nil
  | n + 1 => by
    rw [List.replicate_succ, List.replicate_succ, List.flatten_cons, List.flatten_cons]
    exact h.append (daAll_rep h n)
theorem opF_rep : OpF T X (binaryOp .Mult) fRep := by
  intro pins s σ0 H x y v u Q I rx ry q
  obtain ⟨G, ρ, σ, d, e, r, tx, ty, q⟩ := q
  unfold fRep at q
  split at q
  · rename_i xs0 k
    obtain ⟨a, xs, rfl, ha, hx⟩ := tx.da
    refine op_rep pins s σ0 H _ _ v u Q I rx ry ⟨a, k, xs, rfl, ty.int, ha, q.1.1, q.1.2.1, by rw [hx.length]; exact q.1.2.2, fun p hp => ?_⟩
    obtain ⟨r', na, ap, h1, h2⟩ := r.newL hp (daAll_rep hx k.toNat)
    exact q.2 p _ _ _ rfl r' na ap h1 h2
  · exact q.elim
/-- i * j; a text n times -/
def repS (x : Str) (n : Nat) : Str := ⟨(List.replicate n x.cps).foldl (· ++ ·) #[]⟩
def fMul : PyData → PyData → (PyData → Prop) → Prop
  | .int i, .int j, Q => CMul i j ∧ Q (.int (i * j))
  | .str x, .int n, Q => (-(2 ^ 63) ≤ n ∧ x.length * n.toNat ≤ sizeLine ∧ n < 2 ^ 20) ∧ Q (.str (repS x n.toNat))
  | _, _, _ => False
theorem mono_mul : MonoF fMul := fun x y Q Q' hq h => by
  unfold fMul at h ⊢
  split at h
  · exact ⟨h.1, hq _ h.2⟩
  · exact ⟨h.1, hq _ h.2⟩
  · exact h
/-! ### comparisons -/
def Pl (d : PyData) : Prop := d.plain = true ∧ d.depth ≤ 30
def fEq (neg : Bool) : PyData → PyData → (PyData → Prop) → Prop := fun x y Q => (Pl x ∧ Pl y) ∧ Q (.bool (if neg then !PyData.eqv x y else PyData.eqv x y))
theorem mono_eq {n : Bool} : MonoF (fEq n) := fun _ _ _ _ hq h => ⟨h.1, hq _ h.2⟩
theorem opD_eq {k : Nat} (hr : Room k X.A) : OpD T X (compareOp .Eq) (fEq false) := by
  intro pins s σ0 H x y v u Q I rx ry q
  obtain ⟨G, ρ, σ, d, e, r, tx, ty, ⟨⟨pd, dd⟩, pe, de⟩, q⟩ := q
  obtain ⟨as, r1⟩ := Dp.reads I d x v ((tx.whole pd).dp pd) rx
  obtain ⟨bs, r2⟩ := Dp.reads I e y u ((ty.whole pe).dp pe) ry
  exact SeqAt.eq_plain r1 r2 pd pe (by have := hr.un; have : min d.depth e.depth ≤ d.depth := Nat.min_le_left _ _; omega) ⟨.bl _, H, I, rfl, q _ H r (.bl _)⟩
theorem opD_ne {k : Nat} (hr : Room k X.A) : OpD T X (compareOp .NotEq) (fEq true) := by
  intro pins s σ0 H x y v u Q I rx ry q
  obtain ⟨G, ρ, σ, d, e, r, tx, ty, ⟨⟨pd, dd⟩, pe, de⟩, q⟩ := q
  obtain ⟨as, r1⟩ := Dp.reads I d x v ((tx.whole pd).dp pd) rx
  obtain ⟨bs, r2⟩ := Dp.reads I e y u ((ty.whole pe).dp pe) ry
  exact SeqAt.ne_plain r1 r2 pd pe (by have := hr.un; have : min d.depth e.depth ≤ d.depth := Nat.min_le_left _ _; omega) ⟨.bl _, H, I, rfl, q _ H r (.bl _)⟩
/-- order, of data place by place alike -/
def fOrd (g : PyData → PyData → Bool) : PyData → PyData → (PyData → Prop) → Prop := fun x y Q => (Pl x ∧ Pl y ∧ PySem.W.alike x y = true ∧ x ≠ .none) ∧ Q (.bool (g x y))
theorem mono_ord {g : PyData → PyData → Bool} : MonoF (fOrd g) := fun _ _ _ _ hq h => ⟨h.1, hq _ h.2⟩
theorem opD_lt {k : Nat} (hr : Room k X.A) : OpD T X (compareOp .Lt) (fOrd fun x y => PySem.W.dataLt x y) := by
  intro pins s σ0 H x y v u Q I rx ry q
  obtain ⟨G, ρ, σ, d, e, r, tx, ty, ⟨⟨pd, dd⟩, ⟨pe, de⟩, al, nn⟩, q⟩ := q
  obtain ⟨as, r1⟩ := Dp.reads I d x v ((tx.whole pd).dp pd) rx
  obtain ⟨bs, r2⟩ := Dp.reads I e y u ((ty.whole pe).dp pe) ry
  exact PySem.W.lt_data r1 r2 al nn (by have := hr.un; have : min d.depth e.depth ≤ d.depth := Nat.min_le_left _ _; omega) ⟨.bl _, H, I, rfl, q _ H r (.bl _)⟩
theorem opD_gt {k : Nat} (hr : Room k X.A) : OpD T X (compareOp .Gt) (fOrd fun x y => PySem.W.dataLt y x) := by
  intro pins s σ0 H x y v u Q I rx ry q
  obtain ⟨G, ρ, σ, d, e, r, tx, ty, ⟨⟨pd, dd⟩, ⟨pe, de⟩, al, nn⟩, q⟩ := q
  obtain ⟨as, r1⟩ := Dp.reads I d x v ((tx.whole pd).dp pd) rx
  obtain ⟨bs, r2⟩ := Dp.reads I e y u ((ty.whole pe).dp pe) ry
  exact PySem.W.gt_data r1 r2 al nn (by have := hr.un; have : min d.depth e.depth ≤ d.depth := Nat.min_le_left _ _; omega) ⟨.bl _, H, I, rfl, q _ H r (.bl _)⟩
theorem opD_le {k : Nat} (hr : Room k X.A) : OpD T X (compareOp .LtE) (fOrd fun x y => !PySem.W.dataLt y x) := by
  intro pins s σ0 H x y v u Q I rx ry q
  obtain ⟨G, ρ, σ, d, e, r, tx, ty, ⟨⟨pd, dd⟩, ⟨pe, de⟩, al, nn⟩, q⟩ := q
  obtain ⟨as, r1⟩ := Dp.reads I d x v ((tx.whole pd).dp pd) rx
  obtain ⟨bs, r2⟩ := Dp.reads I e y u ((ty.whole pe).dp pe) ry
  exact PySem.W.le_data r1 r2 al nn (by have := hr.un; have : min d.depth e.depth ≤ d.depth := Nat.min_le_left _ _; omega) ⟨.bl _, H, I, rfl, q _ H r (.bl _)⟩
theorem opD_ge {k : Nat} (hr : Room k X.A) : OpD T X (compareOp .GtE) (fOrd fun x y => !PySem.W.dataLt x y) := by
  intro pins s σ0 H x y v u Q I rx ry q
  obtain ⟨G, ρ, σ, d, e, r, tx, ty, ⟨⟨pd, dd⟩, ⟨pe, de⟩, al, nn⟩, q⟩ := q
  obtain ⟨as, r1⟩ := Dp.reads I d x v ((tx.whole pd).dp pd) rx
  obtain ⟨bs, r2⟩ := Dp.reads I e y u ((ty.whole pe).dp pe) ry
  exact PySem.W.ge_data r1 r2 al nn (by have := hr.un; have : min d.depth e.depth ≤ d.depth := Nat.min_le_left _ _; omega) ⟨.bl _, H, I, rfl, q _ H r (.bl _)⟩
/-- of ints -/
def fC (g : Int → Int → Bool) : PyData → PyData → (PyData → Prop) → Prop
  | .int i, .int j, Q => Q (.bool (g i j))
  | _, _, _ => False
theorem mono_fC {g : Int → Int → Bool} : MonoF (fC g) := fun x y Q Q' hq h => by
  unfold fC at h ⊢
  split at h
  · exact hq _ h
  · exact h
theorem opD_cmp {f : Value → Value → Sem Value} {g : Int → Int → Bool} (h : OpR X f (rI0 fun i j => .bl (g i j))) : OpD T X f (fC g) := by
  intro pins s σ0 H x y v u Q I rx ry q
  obtain ⟨G, ρ, σ, d, e, r, tx, ty, q⟩ := q
  unfold fC at q
  split at q
  · rename_i i j
    exact h pins s σ0 H x y v u Q I rx ry ⟨i, j, tx.int, ty.int, q _ H r (.bl _)⟩
  · exact q.elim
theorem opD_ltI : OpD T X (compareOp .Lt) (fC fun i j => decide (i < j)) := opD_cmp op_lt
theorem opD_leI : OpD T X (compareOp .LtE) (fC fun i j => decide (i ≤ j)) := opD_cmp op_le
theorem opD_gtI : OpD T X (compareOp .Gt) (fC fun i j => decide (j < i)) := opD_cmp op_gt
theorem opD_geI : OpD T X (compareOp .GtE) (fC fun i j => decide (j ≤ i)) := opD_cmp op_ge
/-- is None -/
def isN : PyData → Bool
  | .none => true
  | _ => false
theorem isN_of {v : V} {d : PyData} {D0 O : List Addr} (h : Top K D0 O H v d) : decide (v = .non) = isN d := by
  cases h with
  | sh h => cases h <;> rfl
  | ol => rfl
  | ok => rfl
  | ot => rfl
theorem opD_isN : OpD T X (compareOp .Is) (fun x y Q => y = .none ∧ Q (.bool (isN x))) := by
  intro pins s σ0 H x y v u Q I rx ry q
  obtain ⟨G, ρ, σ, d, e, r, tx, ty, rfl, q⟩ := q
  exact op_isN pins s σ0 H x y v u Q I rx ry ⟨ty.non, by rw [isN_of tx]; exact q _ H r (.bl _)⟩
theorem opD_notN : OpD T X (compareOp .IsNot) (fun x y Q => y = .none ∧ Q (.bool (!isN x))) := by
  intro pins s σ0 H x y v u Q I rx ry q
  obtain ⟨G, ρ, σ, d, e, r, tx, ty, rfl, q⟩ := q
  exact op_notN pins s σ0 H x y v u Q I rx ry ⟨ty.non, by rw [isN_of tx]; exact q _ H r (.bl _)⟩
theorem inroom {k u a b : Nat} (hu : u + 16 * k + 200 < cLine) (dd : b ≤ 30) : u + 1 + min a b < cLine := by
  have : min a b ≤ b := Nat.min_le_right _ _
  omega
/-- x in xs; a text in a text -/
def fIn (neg : Bool) : PyData → PyData → (PyData → Prop) → Prop
  | x, .list ys, Q => (Pl x ∧ Pl (.list ys)) ∧ Q (.bool (if neg then !(ys.any fun z => PyData.eqv z x) else ys.any fun z => PyData.eqv z x))
  | x, .tuple ys, Q => (Pl x ∧ Pl (.tuple ys)) ∧ Q (.bool (if neg then !(ys.any fun z => PyData.eqv z x) else ys.any fun z => PyData.eqv z x))
  | .str a, .str b, Q => Q (.bool (if neg then !(!(Builtin.Str.occurrences b a 0 b.length 1).isEmpty) else !(Builtin.Str.occurrences b a 0 b.length 1).isEmpty))
  | _, _, _ => False
theorem mono_in {n : Bool} : MonoF (fIn n) := fun x y Q Q' hq h => by
  unfold fIn at h ⊢
  split at h
  · exact ⟨h.1, hq _ h.2⟩
  · exact ⟨h.1, hq _ h.2⟩
  · exact hq _ h
  · exact h
theorem opD_in {k : Nat} (hr : Room k X.A) : OpD T X (compareOp .In) (fIn false) := by
  intro pins s σ0 H x y v u Q I rx ry q
  obtain ⟨G, ρ, σ, d, e, r, tx, ty, q⟩ := q
  have hu := hr.un
  unfold fIn at q
  split at q
  · rename_i ys
    obtain ⟨⟨⟨pd, dd⟩, pe, de⟩, q⟩ := q
    obtain ⟨as, r1⟩ := Dp.reads I _ x v ((tx.whole pd).dp pd) rx
    obtain ⟨bs, r2⟩ := Dp.reads I _ y u ((ty.whole pe).dp pe) ry
    exact SeqAt.in_list_data r2 r1 (by simpa [PyData.plain] using pe) pd (inroom hu dd) ⟨.bl _, H, I, rfl, q _ H r (.bl _)⟩
  · rename_i ys
    obtain ⟨⟨⟨pd, dd⟩, pe, de⟩, q⟩ := q
    obtain ⟨as, r1⟩ := Dp.reads I _ x v ((tx.whole pd).dp pd) rx
    obtain ⟨bs, r2⟩ := Dp.reads I _ y u ((ty.whole pe).dp pe) ry
    exact SeqAt.in_tuple_data r2 r1 (by simpa [PyData.plain] using pe) pd (inroom hu dd) ⟨.bl _, H, I, rfl, q _ H r (.bl _)⟩
  · rename_i i j
    exact op_in_str pins s σ0 H x y v u Q I rx ry ⟨i, j, tx.str, ty.str, q _ H r (.bl _)⟩
  · exact q.elim
theorem opD_notIn {k : Nat} (hr : Room k X.A) : OpD T X (compareOp .NotIn) (fIn true) := by
  intro pins s σ0 H x y v u Q I rx ry q
  obtain ⟨G, ρ, σ, d, e, r, tx, ty, q⟩ := q
  have hu := hr.un
  unfold fIn at q
  split at q
  · rename_i ys
    obtain ⟨⟨⟨pd, dd⟩, pe, de⟩, q⟩ := q
    obtain ⟨as, r1⟩ := Dp.reads I _ x v ((tx.whole pd).dp pd) rx
    obtain ⟨bs, r2⟩ := Dp.reads I _ y u ((ty.whole pe).dp pe) ry
    exact SeqAt.notIn_list_data r2 r1 (by simpa [PyData.plain] using pe) pd (inroom hu dd) ⟨.bl _, H, I, rfl, q _ H r (.bl _)⟩
  · rename_i ys
    obtain ⟨⟨⟨pd, dd⟩, pe, de⟩, q⟩ := q
    obtain ⟨as, r1⟩ := Dp.reads I _ x v ((tx.whole pd).dp pd) rx
    obtain ⟨bs, r2⟩ := Dp.reads I _ y u ((ty.whole pe).dp pe) ry
    exact SeqAt.notIn_tuple_data r2 r1 (by simpa [PyData.plain] using pe) pd (inroom hu dd) ⟨.bl _, H, I, rfl, q _ H r (.bl _)⟩
  · rename_i i j
    exact op_notin_str pins s σ0 H x y v u Q I rx ry ⟨i, j, tx.str, ty.str, q _ H r (.bl _)⟩
  · exact q.elim
end
end PL
set_option Elab.async false
set_option linter.all false
set_option maxRecDepth 100000
set_option maxHeartbeats 2000000
namespace PL
open PySem PySem.Spec PyProof.Rows L2
open LamX (ExtN Tabs TabS)
section
variable {T : Tb} {X : Cx} {W : WX} {pos : Pos} {e a b c : Expr} {K : PySem.W.Frag} {G : Gh} {ρ : En} {σ : L2.St} {H H' : Hp}
/-! ### tests -/
def wT (w : PW) : PWB := fun ρ Q E => w ρ (fun d => match d with | .bool k => Q k | _ => False) E
theorem mono_T {w : PW} (m : Mono w) : Mono (wT w) := fun ρ Q Q' E E' hq he h => m _ _ _ _ _ (fun d hd => by cases d <;> first | exact hq _ hd | exact hd) he h
theorem dt_val {w : PW} (h : DE T X W e w) (he : ∀ whole, isTrue e X.env whole = (do let v ← whole; standAt e.pos; holding [v] (truthy v)) := by intro _; rfl) : DT T X W e (wT w) :=
  ⟨pt_mono (pt_val h.pe he) fun σ H Q q => by
    obtain ⟨G, ρ, r, q⟩ := q
    refine ⟨G, ρ, r, h.mono _ _ _ _ _ (fun d hd v H' r' a => ?_) (fun _ z => z) q⟩
    cases a <;> first | exact ⟨_, rfl, hd H' r'⟩ | exact hd.elim, mono_T h.mono⟩
theorem dt_cmp {op : CmpOp} {f : PyData → PyData → (PyData → Prop) → Prop} {wa wb : PW} (ho : OpD T X (compareOp op) f) (mf : MonoF f) (ha : DR T X W a wa) (hb : DR T X W b wb) (hm : behindInMarks op b = false) : DT T X W (.Compare a [op] [b] pos) (wT (w2 f wa wb)) :=
  ⟨pt_mono (pt_cmpR ho ha.pe hb.pe hm) fun σ H Q q => by
    obtain ⟨G, ρ, r, q⟩ := q
    refine both (P := fun x y => f x y fun d => match d with | .bool k => ∀ H', Rep T X.K G ρ σ H' → Q k H' | _ => False) ha.mono hb.mono r (fun v u H' x y r' e tv tu p => ⟨G, ρ, σ, x, y, r', tv, tu, mf _ _ _ _ (fun d hd v H'' r'' a => ?_) p⟩) q
    cases a <;> first | exact ⟨_, rfl, hd H'' r''⟩ | exact hd.elim, mono_T (mono_2 mf ha.mono hb.mono)⟩
def wNot (w : PWB) : PWB := fun ρ Q E => w ρ (fun b => Q (!b)) E
theorem dt_not {w : PWB} (h : DT T X W a w) : DT T X W (.UnaryOp .Not a pos) (wNot w) :=
  ⟨pt_mono (pt_not h.pt) fun σ H Q q => by
    obtain ⟨G, ρ, r, q⟩ := q
    exact ⟨G, ρ, r, q⟩, fun ρ Q Q' E E' hq he q => h.mono _ _ _ _ _ (fun b hb => hq _ hb) he q⟩
structure DW (T : Tb) (X : Cx) (W : WX) (e : Expr) (w : PWB) : Prop where
  pw : L2.PW X e (liftB T X.K W w)
  mono : Mono w
def wAnd (u v : PWB) : PWB := fun ρ Q E => u ρ (fun b => if b = true then v ρ Q E else Q false) E
def wOr (u v : PWB) : PWB := fun ρ Q E => u ρ (fun b => if b = true then Q true else v ρ Q E) E
theorem mono_And {u v : PWB} (mu : Mono u) (mv : Mono v) : Mono (wAnd u v) := fun ρ Q Q' E E' hq he h => mu _ _ _ _ _ (fun b hb => by
  by_cases z : b = true
  · rw [if_pos z] at hb ⊢; exact mv _ _ _ _ _ hq he hb
  · rw [if_neg z] at hb ⊢; exact hq _ hb) he h
theorem mono_Or {u v : PWB} (mu : Mono u) (mv : Mono v) : Mono (wOr u v) := fun ρ Q Q' E E' hq he h => mu _ _ _ _ _ (fun b hb => by
  by_cases z : b = true
  · rw [if_pos z] at hb ⊢; exact hq _ hb
  · rw [if_neg z] at hb ⊢; exact mv _ _ _ _ _ hq he hb) he h
theorem pw_mono {X : Cx} {e : Expr} {t t' : TT} (h : L2.PW X e t) (i : ∀ σ H Q, t' σ H Q → t σ H Q) : L2.PW X e t' := ⟨fun whole pins s σ H Q I q => h.run whole pins s σ H Q I (i _ _ _ q)⟩
theorem dw_and1 {w : PWB} (h : DT T X W a w) : DW T X W (.BoolOp .And [a] pos) w := ⟨pw_and1 h.pt, h.mono⟩
theorem dw_or1 {w : PWB} (h : DT T X W a w) : DW T X W (.BoolOp .Or [a] pos) w := ⟨pw_or1 h.pt, h.mono⟩
theorem dw_and {u v : PWB} {rest : List Expr} (ha : DT T X W a u) (hb : DW T X W (.BoolOp .And (b :: rest) pos) v) : DW T X W (.BoolOp .And (a :: b :: rest) pos) (wAnd u v) :=
  ⟨pw_mono (pw_and ha.pt hb.pw) fun σ H Q q => by
    obtain ⟨G, ρ, r, q⟩ := q
    refine liftB_intro ha.mono r (ha.mono _ _ _ _ _ (fun k hk H1 r1 e1 => ?_) (fun _ z => z) q)
    by_cases z : k = true
    · rw [if_pos z] at hk ⊢; exact ⟨G, ρ, r1, hk⟩
    · rw [if_neg z] at hk ⊢; exact hk H1 r1, mono_And ha.mono hb.mono⟩
theorem dw_or {u v : PWB} {rest : List Expr} (ha : DT T X W a u) (hb : DW T X W (.BoolOp .Or (b :: rest) pos) v) : DW T X W (.BoolOp .Or (a :: b :: rest) pos) (wOr u v) :=
  ⟨pw_mono (pw_or ha.pt hb.pw) fun σ H Q q => by
    obtain ⟨G, ρ, r, q⟩ := q
    refine liftB_intro ha.mono r (ha.mono _ _ _ _ _ (fun k hk H1 r1 e1 => ?_) (fun _ z => z) q)
    by_cases z : k = true
    · rw [if_pos z] at hk ⊢; exact hk H1 r1
    · rw [if_neg z] at hk ⊢; exact ⟨G, ρ, r1, hk⟩, mono_Or ha.mono hb.mono⟩
theorem dt_bool {w : PWB} (h : DW T X W e w) : DT T X W e w := ⟨L2.PW.pt h.pw, h.mono⟩
/-! ### and, or, not as values, all bools -/
def wNotV (w : PW) : PW := fun ρ Q E => w ρ (fun d => match d with | .bool k => Q (.bool (!k)) | _ => False) E
theorem de_not {w : PW} (h : DE T X W a w) : DE T X W (.UnaryOp .Not a pos) (wNotV w) :=
  ⟨pe_mono (pe_not h.pe) fun σ H Q q => by
    obtain ⟨G, ρ, r, q⟩ := q
    refine ⟨G, ρ, r, h.mono _ _ _ _ _ (fun d hd v H' r' a => ?_) (fun _ z => z) q⟩
    cases a <;> first | exact ⟨_, rfl, hd _ H' r' (.bl _)⟩ | exact hd.elim, fun ρ Q Q' E E' hq he q => h.mono _ _ _ _ _ (fun d hd => by cases d <;> first | exact hq _ hd | exact hd) he q⟩
def wAndV (u v : PW) : PW := fun ρ Q E => u ρ (fun d => match d with | .bool true => v ρ Q E | .bool false => Q (.bool false) | _ => False) E
def wOrV (u v : PW) : PW := fun ρ Q E => u ρ (fun d => match d with | .bool true => Q (.bool true) | .bool false => v ρ Q E | _ => False) E
theorem de_one {op} {w : PW} (h : DE T X W a w) : DE T X W (.BoolOp op [a] pos) w := ⟨pe_one h.pe, h.mono⟩
theorem de_and {u v : PW} {rest : List Expr} (ha : DE T X W a u) (hb : DE T X W (.BoolOp .And (b :: rest) pos) v) : DE T X W (.BoolOp .And (a :: b :: rest) pos) (wAndV u v) :=
  ⟨pe_mono (pe_and ha.pe hb.pe) fun σ H Q q => by
    obtain ⟨G, ρ, r, q⟩ := q
    refine ⟨G, ρ, r, ha.mono _ _ _ _ _ (fun d hd v H' r' a => ?_) (fun _ z => z) q⟩
    cases a with
    | bl k =>
      refine ⟨k, rfl, ?_⟩
      cases k with
      | true => exact ⟨G, ρ, r', hd⟩
      | false => exact hd _ H' r' (.bl _)
    | _ => exact hd.elim, fun ρ Q Q' E E' hq he q => ha.mono _ _ _ _ _ (fun d hd => by
      split at hd
      · exact hb.mono _ _ _ _ _ hq he hd
      · exact hq _ hd
      · exact hd.elim) he q⟩
theorem de_or {u v : PW} {rest : List Expr} (ha : DE T X W a u) (hb : DE T X W (.BoolOp .Or (b :: rest) pos) v) : DE T X W (.BoolOp .Or (a :: b :: rest) pos) (wOrV u v) :=
  ⟨pe_mono (pe_or ha.pe hb.pe) fun σ H Q q => by
    obtain ⟨G, ρ, r, q⟩ := q
    refine ⟨G, ρ, r, ha.mono _ _ _ _ _ (fun d hd v H' r' a => ?_) (fun _ z => z) q⟩
    cases a with
    | bl k =>
      refine ⟨k, rfl, ?_⟩
      cases k with
      | true => exact hd _ H' r' (.bl _)
      | false => exact ⟨G, ρ, r', hd⟩
    | _ => exact hd.elim, fun ρ Q Q' E E' hq he q => ha.mono _ _ _ _ _ (fun d hd => by
      split at hd
      · exact hq _ hd
      · exact hb.mono _ _ _ _ _ hq he hd
      · exact hd.elim) he q⟩
def wIf (t : PWB) (u v : PW) : PW := fun ρ Q E => t ρ (fun k => if k = true then u ρ Q E else v ρ Q E) E
theorem de_if {t : PWB} {u v : PW} (hc : DT T X W c t) (ha : DE T X W a u) (hb : DE T X W b v) : DE T X W (.IfExp c a b pos) (wIf t u v) :=
  ⟨pe_mono (pe_ifExp hc.pt ha.pe hb.pe) fun σ H Q q => by
    obtain ⟨G, ρ, r, q⟩ := q
    refine ⟨G, ρ, r, hc.mono _ _ _ _ _ (fun k hk H' r' => ?_) (fun _ z => z) q⟩
    by_cases z : k = true
    · rw [if_pos z] at hk ⊢; exact ⟨G, ρ, r', hk⟩
    · rw [if_neg z] at hk ⊢; exact ⟨G, ρ, r', hk⟩, fun ρ Q Q' E E' hq he q => hc.mono _ _ _ _ _ (fun k hk => by
      by_cases z : k = true
      · rw [if_pos z] at hk ⊢; exact ha.mono _ _ _ _ _ hq he hk
      · rw [if_neg z] at hk ⊢; exact hb.mono _ _ _ _ _ hq he hk) he q⟩
/-! ### chains of two, the middle one ours to read -/
def wCh (f g : PyData → PyData → (PyData → Prop) → Prop) (wa wb wc : PW) : PW := fun ρ Q E => wa ρ (fun x => wb ρ (fun y => f x y fun z => match z with
  | .bool true => wc ρ (fun w => g y w Q) E
  | .bool false => Q (.bool false)
  | _ => False) E) E
theorem mono_Ch {f g : PyData → PyData → (PyData → Prop) → Prop} {wa wb wc : PW} (mf : MonoF f) (mg : MonoF g) (ma : Mono wa) (mb : Mono wb) (mc : Mono wc) : Mono (wCh f g wa wb wc) := fun ρ Q Q' E E' hq he h =>
  ma _ _ _ _ _ (fun x hx => mb _ _ _ _ _ (fun y hy => mf _ _ _ _ (fun z hz => by
    split at hz
    · exact mc _ _ _ _ _ (fun w hw => mg _ _ _ _ hq hw) he hz
    · exact hq _ hz
    · exact hz.elim) hy) he hx) he h
theorem chain_core {f g : PyData → PyData → (PyData → Prop) → Prop} {op op' : CmpOp} {wa wb wc : PW} {Q : VK} {G : Gh} {ρ : En} {σ : L2.St} {H : Hp} {P : PyData → Prop} (mf : MonoF f) (ha : DE T X W a wa) (hb : DE T X W b wb) (hc : DE T X W c wc) (r : Rep T X.K G ρ σ H)
    (hP : ∀ d v H', P d → Rep T X.K G ρ σ H' → Da X.K (hide G.O H') v d → Q v H') (mg : MonoF g)
    (q : wCh f g wa wb wc ρ P (exOut T X.K W G ρ σ)) :
    tChain (fun x y H Q => ∃ (G : Gh) (ρ : En) (σ : L2.St) (d e : PyData), Rep T X.K G ρ σ H ∧ Top X.K T.dc G.O H x d ∧ Top X.K T.dc G.O H y e ∧ f d e fun r => ∀ v H', Rep T X.K G ρ σ H' → Da X.K (hide G.O H') v r → Q v H')
      (fun x y H Q => ∃ (G : Gh) (ρ : En) (σ : L2.St) (d e : PyData), Rep T X.K G ρ σ H ∧ Top X.K T.dc G.O H x d ∧ Top X.K T.dc G.O H y e ∧ g d e fun r => ∀ v H', Rep T X.K G ρ σ H' → Da X.K (hide G.O H') v r → Q v H')
      (lift T X.K W wa) (lift T X.K W wb) (lift T X.K W wc) σ H Q := by
  refine lift_intro ha.mono r (ha.mono _ _ _ _ _ (fun x hx v1 H1 r1 e1 d1 => ?_) (fun _ z => z) q)
  refine lift_intro hb.mono r1 (hb.mono _ _ _ _ _ (fun y hy v2 H2 r2 e2 d2 => ?_) (fun _ z => z) hx)
  refine ⟨⟨hide G.O H2, G.O, G.fl⟩, ρ, σ, x, y, r2.rebase, .sh (d1.ext e2), .sh d2, mf _ _ _ _ (fun z hz v H3 r3 a3 => ?_) hy⟩
  have e3 := r3.ext
  have r3' : Rep T X.K G ρ σ H3 := r3.unbase r2.ext
  cases a3 with
  | bl k =>
    refine ⟨k, rfl, ?_⟩
    cases k with
    | true =>
      refine lift_intro hc.mono r3' (hc.mono _ _ _ _ _ (fun w hw v4 H4 r4 e4 d4 => ?_) (fun _ z => z) hz)
      exact ⟨G, ρ, σ, y, w, r4, .sh ((d2.ext e3).ext e4), .sh d4, mg _ _ _ _ (fun d hd v H' r' a => hP d v H' hd r' a) hw⟩
    | false => exact hP _ _ H3 hz r3' (.bl _)
  | _ => exact hz.elim
theorem de_chain {f g : PyData → PyData → (PyData → Prop) → Prop} {op op' : CmpOp} {wa wb wc : PW} (ho : OpD T X (compareOp op) f) (ho' : OpD T X (compareOp op') g) (mf : MonoF f) (mg : MonoF g) (ha : DE T X W a wa) (hb : DE T X W b wb) (hc : DE T X W c wc)
    (hm : lastMarks [op, op'] [b, c] = false := by with_unfolding_all rfl) : DE T X W (.Compare a [op, op'] [b, c] pos) (wCh f g wa wb wc) :=
  ⟨pe_mono (pe_chain ho ho' ha.pe hb.pe hc.pe hm) fun σ H Q q => by
    obtain ⟨G, ρ, r, q⟩ := q
    exact chain_core (op := op) (op' := op') mf ha hb hc r (fun d v H' h r' a => h v H' r' a) mg q, mono_Ch mf mg ha.mono hb.mono hc.mono⟩
theorem dt_chain {f g : PyData → PyData → (PyData → Prop) → Prop} {op op' : CmpOp} {wa wb wc : PW} (ho : OpD T X (compareOp op) f) (ho' : OpD T X (compareOp op') g) (mf : MonoF f) (mg : MonoF g) (ha : DE T X W a wa) (hb : DE T X W b wb) (hc : DE T X W c wc)
    (hm : lastMarks [op, op'] [b, c] = false := by with_unfolding_all rfl) : DT T X W (.Compare a [op, op'] [b, c] pos) (wT (wCh f g wa wb wc)) :=
  ⟨pt_mono (pt_chain ho ho' ha.pe hb.pe hc.pe hm) fun σ H Q q => by
    obtain ⟨G, ρ, r, q⟩ := q
    exact chain_core (op := op) (op' := op') (Q := fun x H' => ∃ k, x = .bl k ∧ Q k H') mf ha hb hc r (fun d v H' h r' a => by cases a <;> first | exact ⟨_, rfl, h H' r'⟩ | exact h.elim) mg q, mono_T (mono_Ch mf mg ha.mono hb.mono hc.mono)⟩
/-! ### rows of expressions, tuples, lists -/
def wNil : PWs := fun _ Q _ => Q []
def wCons (w : PW) (ws : PWs) : PWs := fun ρ Q E => w ρ (fun d => ws ρ (fun ds => Q (d :: ds)) E) E
theorem da_nil : DA T X W [] wNil := ⟨⟨fun p pins s σ H Q I h => by
  obtain ⟨G, ρ, r, q⟩ := h
  exact pa_nil.run p pins s σ H Q I (q [] H r .nil)⟩, fun _ _ _ _ _ hq _ h => hq _ h⟩
theorem mono_cons {w : PW} {ws : PWs} (m : Mono w) (ms : Mono ws) : Mono (wCons w ws) := fun ρ Q Q' E E' hq he h => m _ _ _ _ _ (fun d hd => ms _ _ _ _ _ (fun ds hds => hq _ hds) he hd) he h
theorem da_cons {es : List Expr} {w : PW} {ws : PWs} (ha : DE T X W e w) (hr : DA T X W es ws) (hs : starEach (e :: es) X.env = (false, eval e X.env) :: starEach es X.env := by rfl) : DA T X W (e :: es) (wCons w ws) :=
  ⟨⟨fun p pins s σ H Q I h => (pa_cons ha.pe hr.pa hs).run p pins s σ H Q I (by
    obtain ⟨G, ρ, r, q⟩ := h
    refine lift_intro ha.mono r (ha.mono _ _ _ _ _ (fun d hd v H1 r1 e1 a1 => ?_) (fun _ z => z) q)
    refine liftA_intro hr.mono r1 (hr.mono _ _ _ _ _ (fun ds hds vs H2 r2 e2 a2 => ?_) (fun _ z => z) hd)
    exact hds _ H2 r2 (.cons (a1.ext e2) a2))⟩, mono_cons ha.mono hr.mono⟩
def wTup (ws : PWs) : PW := fun ρ Q E => ws ρ (fun ds => ds.length ≤ sizeLine ∧ Q (.tuple ds)) E
def wLst (ws : PWs) : PW := fun ρ Q E => ws ρ (fun ds => ds.length ≤ sizeLine ∧ Q (.list ds)) E
theorem de_tup {es : List Expr} {ws : PWs} {k} (h : DA T X W es ws) : DE T X W (.Tuple es k pos) (wTup ws) :=
  ⟨pe_mono (pe_tup h.pa) fun σ H Q q => by
    obtain ⟨G, ρ, r, q⟩ := q
    refine ⟨G, ρ, r, h.mono _ _ _ _ _ (fun ds hds vs H' r' a => ⟨by rw [a.length]; exact hds.1, fun p hp => ?_⟩) (fun _ z => z) q⟩
    obtain ⟨r2, e2, np, hh⟩ := r'.new (o := .tup vs) hp
    exact hds.2 _ _ r2 (.tup hh (a.ext e2)), fun ρ Q Q' E E' hq he q => h.mono _ _ _ _ _ (fun ds hd => ⟨hd.1, hq _ hd.2⟩) he q⟩
theorem df_lst {es : List Expr} {ws : PWs} (h : DA T X W es ws) : DF T X W (.List es pos) (wLst ws) :=
  ⟨pe_mono (pe_lst h.pa) fun σ H Q q => by
    obtain ⟨G, ρ, r, q⟩ := q
    refine ⟨G, ρ, r, h.mono _ _ _ _ _ (fun ds hds vs H' r' a => ⟨by rw [a.length]; exact hds.1, fun p hp => ?_⟩) (fun _ z => z) q⟩
    obtain ⟨r2, na, ap, h1, h2⟩ := r'.newL hp a
    exact hds.2 p _ _ _ rfl r2 na ap h1 h2, fun ρ Q Q' E E' hq he q => h.mono _ _ _ _ _ (fun ds hd => ⟨hd.1, hq _ hd.2⟩) he q⟩
/-! ### subscripts -/
def fIx : PyData → PyData → (PyData → Prop) → Prop
  | .list xs, .int i, Q => match atI xs i with | some d => Q d | none => False
  | .tuple xs, .int i, Q => match atI xs i with | some d => Q d | none => False
  | .str z, .int i, Q => z.length ≤ sizeLine ∧ match atI z.cps.toList i with | some c => Q (.str ⟨#[c]⟩) | none => False
  | _, _, _ => False
theorem mono_ix : MonoF fIx := fun x y Q Q' hq h => by
  unfold fIx at h ⊢
  split at h
  · split at h
    · exact hq _ h
    · exact h
  · split at h
    · exact hq _ h
    · exact h
  · refine ⟨h.1, ?_⟩
    have h2 := h.2
    split at h2
    · exact hq _ h2
    · exact h2
  · exact h
theorem atI_da {vs : List V} {ds : List PyData} {i : Int} {d : PyData} (h : DaAll K H vs ds) (e : atI ds i = some d) : ∃ v, atI vs i = some v ∧ Da K H v d := by
  unfold atI at e ⊢
  rw [h.length]
  cases z : ixN ds.length i with
  | none => rw [z] at e; cases e
  | some j =>
    rw [z] at e
    obtain ⟨v, h1, h2⟩ := h.getD (i := j) e
    exact ⟨v, h1, h2⟩
theorem ixR_d : IxR X fun x y H Q => ∃ (G : Gh) (ρ : En) (σ : L2.St) (d e : PyData), Rep T X.K G ρ σ H ∧ Top X.K T.dc G.O H x d ∧ Top X.K T.dc G.O H y e ∧ fIx d e fun r => ∀ v H', Rep T X.K G ρ σ H' → Da X.K (hide G.O H') v r → Q v H' := by
  intro value slice pins s σ0 H x y v u Q I rx ry q hs
  obtain ⟨G, ρ, σ, d, e, r, tx, ty, q⟩ := q
  unfold fIx at q
  split at q
  · split at q
    · rename_i d' hd
      obtain ⟨a, xs, rfl, ha, hx⟩ := tx.da
      obtain ⟨w, h1, h2⟩ := atI_da hx hd
      exact ix_list value slice pins s σ0 H _ y v u Q I rx ry ⟨a, xs, _, w, rfl, ty.int, SqL.of ha, h1, q _ H r h2⟩ hs
    · exact q.elim
  · split at q
    · rename_i d' hd
      obtain ⟨a, xs, rfl, _, ha, hx⟩ := tx.tup
      obtain ⟨w, h1, h2⟩ := atI_da hx hd
      exact ix_tup value slice pins s σ0 H _ y v u Q I rx ry ⟨a, xs, _, w, rfl, ty.int, ha, h1, q _ H r h2⟩ hs
    · exact q.elim
  · obtain ⟨hz, q⟩ := q
    split at q
    · rename_i c' hc
      exact ix_str value slice pins s σ0 H x y v u Q I rx ry ⟨_, _, c', tx.str, ty.int, hz, hc, q _ H r (.str _)⟩ hs
    · exact q.elim
  · exact q.elim
theorem de_ix {wa wb : PW} (ha : DR T X W a wa) (hb : DR T X W b wb) (hs : PlainIx b := by intro _ _; rfl) : DE T X W (.Subscript a b pos) (w2 fIx wa wb) :=
  ⟨pe_mono (pe_ix (ixR_d (T := T)) ha.pe hb.pe hs) fun σ H Q q => by
    obtain ⟨G, ρ, r, q⟩ := q
    exact both (P := fun x y => fIx x y fun d => ∀ v H', Rep T X.K G ρ σ H' → Da X.K (hide G.O H') v d → Q v H') ha.mono hb.mono r (fun v u H' x y r' e tv tu p => ⟨G, ρ, σ, x, y, r', tv, tu, p⟩) q, mono_2 mono_ix ha.mono hb.mono⟩
end
end PL
set_option Elab.async false
set_option linter.all false
set_option maxRecDepth 100000
set_option maxHeartbeats 2000000
namespace PL
open PySem PySem.Spec PyProof.Rows L2
open LamX (ExtN Tabs TabS)
section
variable {T : Tb} {X : Cx} {W : WX} {pos p : Pos} {e a b c : Expr} {K : PySem.W.Frag} {G : Gh} {ρ : En} {σ : L2.St} {H H' : Hp}
/-! ### holding on to a value -/
theorem Rep.hold {v : V} {d : PyData} (r : Rep T K G ρ σ H) (t : Top K T.dc G.O H v d) : ∃ G1 : Gh, G1.O = G.O ∧ Rep T K G1 ρ σ H ∧ ∀ H', Rep T K G1 ρ σ H' → Rep T K G ρ σ H' ∧ Top K T.dc G.O H' v d ∧ ExtN (hide G.O H) (hide G.O H') := by
  by_cases own : ∃ a o, v = .ref a ∧ a ∈ G.O ∧ a ∉ T.dc ∧ H a = some o
  · obtain ⟨a, o, ev, ha, nd, ho⟩ := own
    refine ⟨⟨hide G.O H, G.O, (a, o) :: G.fl⟩, rfl, (r.rebase).fly1 (G := ⟨hide G.O H, G.O, G.fl⟩) ha ho nd, fun H' r' => ?_⟩
    obtain ⟨r2, k⟩ := r'.land
    have e := r2.ext
    exact ⟨r2.unbase r.ext, t.ext e fun b eb hb _ => by rw [ev] at eb; cases eb; rw [show H' a = some o from k, ho], e⟩
  · refine ⟨⟨hide G.O H, G.O, G.fl⟩, rfl, r.rebase, fun H' r' => ⟨r'.unbase r.ext, t.ext r'.ext fun b eb hb nd => ?_, r'.ext⟩⟩
    obtain ⟨o, ho, _⟩ := r.dom b hb
    exact absurd ⟨b, o, eb, hb, nd, ho⟩ own
theorem exOut_hold {G1 : Gh} (eO : G1.O = G.O) (h : ∀ H', Rep T K G1 ρ σ H' → Rep T K G ρ σ H') (x : Exn) (hx : exOut T K W G ρ σ x) : exOut T K W G1 ρ σ x := fun H' cls dd r' q => hx H' cls dd (h H' r') (by rw [← eO]; exact q)
/-! ### slices -/
abbrev PWo := En → (Option Int → Prop) → (Exn → Prop) → Prop
def wNo : PWo := fun _ Q _ => Q none
def wSo (w : PW) : PWo := fun ρ Q E => w ρ (fun d => match d with | .int i => Q (some i) | _ => False) E
structure DO (T : Tb) (X : Cx) (W : WX) (e : Option Expr) (w : PWo) : Prop where
  po : ∃ t : TO, PO X e t ∧ ∀ G ρ σ H R, Rep T X.K G ρ σ H → w ρ (fun o => ∀ H', Rep T X.K G ρ σ H' → R o H') (exOut T X.K W G ρ σ) → t σ H R
  mono : Mono w
theorem do_none : DO T X W none wNo := ⟨⟨tNoPart, po_none, fun G ρ σ H R r h => h H r⟩, fun _ _ _ _ _ hq _ h => hq _ h⟩
theorem do_some {w : PW} (h : DE T X W e w) : DO T X W (some e) (wSo w) := ⟨⟨_, po_some h.pe, fun G ρ σ H R r q => ⟨G, ρ, r, h.mono _ _ _ _ _ (fun d hd v H' r' a => by cases a <;> first | exact ⟨_, rfl, hd H' r'⟩ | exact hd.elim) (fun _ z => z) q⟩⟩,
  fun ρ Q Q' E E' hq he q => h.mono _ _ _ _ _ (fun d hd => by cases d <;> first | exact hq _ hd | exact hd) he q⟩
def cutD (xs : List PyData) (lo hi : Option Int) : List PyData := (xs.drop (HT.sIx xs.length 0 lo)).take (HT.sIx xs.length xs.length hi - HT.sIx xs.length 0 lo)
theorem cut_da {vs : List V} {ds : List PyData} (h : DaAll K H vs ds) (lo hi : Option Int) : DaAll K H (cutV vs lo hi) (cutD ds lo hi) := by
  unfold cutV cutD
  rw [h.length]
  exact (h.drop _).take _
def fSlL (x : PyData) (lo hi : Option Int) (Q : PyData → Prop) : Prop := match x with
  | .list xs => Q (.list (cutD xs lo hi))
  | _ => False
def fSlS (x : PyData) (lo hi : Option Int) (Q : PyData → Prop) : Prop := match x with
  | .tuple xs => Q (.tuple (cutD xs lo hi))
  | .str z => z.length ≤ sizeLine ∧ Q (.str (cutS z lo hi))
  | _ => False
def wSl (f : PyData → Option Int → Option Int → (PyData → Prop) → Prop) (w : PW) (wl wh : PWo) : PW := fun ρ Q E => w ρ (fun x => wl ρ (fun l => wh ρ (fun h => f x l h Q) E) E) E
theorem mono_Sl {f : PyData → Option Int → Option Int → (PyData → Prop) → Prop} {w : PW} {wl wh : PWo} (mf : ∀ x l h Q Q', (∀ d, Q d → Q' d) → f x l h Q → f x l h Q') (m : Mono w) (ml : Mono wl) (mh : Mono wh) : Mono (wSl f w wl wh) := fun ρ Q Q' E E' hq he q =>
  m _ _ _ _ _ (fun x hx => ml _ _ _ _ _ (fun l hl => mh _ _ _ _ _ (fun h hh => mf _ _ _ _ _ hq hh) he hl) he hx) he q
theorem mono_SlL : ∀ x l h Q Q', (∀ d, Q d → Q' d) → fSlL x l h Q → fSlL x l h Q' := fun x l h Q Q' hq q => by cases x <;> first | exact hq _ q | exact q
theorem mono_SlS : ∀ x l h Q Q', (∀ d, Q d → Q' d) → fSlS x l h Q → fSlS x l h Q' := fun x l h Q Q' hq q => by cases x <;> first | exact hq _ q | exact ⟨q.1, hq _ q.2⟩ | exact q
theorem sl_core {w : PW} {wl wh : PWo} {lo hi : Option Expr} {P : PyData → Option Int → Option Int → Prop} {R : V → Option Int → Option Int → Hp → Prop} {tl th : TO} (h : DR T X W e w) (ml : Mono wl) (mh : Mono wh)
    (hl : ∀ G ρ σ H R, Rep T X.K G ρ σ H → wl ρ (fun o => ∀ H', Rep T X.K G ρ σ H' → R o H') (exOut T X.K W G ρ σ) → tl σ H R) (hh : ∀ G ρ σ H R, Rep T X.K G ρ σ H → wh ρ (fun o => ∀ H', Rep T X.K G ρ σ H' → R o H') (exOut T X.K W G ρ σ) → th σ H R)
    (r : Rep T X.K G ρ σ H) (hR : ∀ v d l h H', P d l h → Rep T X.K G ρ σ H' → Top X.K T.dc G.O H' v d → R v l h H')
    (q : w ρ (fun x => wl ρ (fun l => wh ρ (fun h => P x l h) (exOut T X.K W G ρ σ)) (exOut T X.K W G ρ σ)) (exOut T X.K W G ρ σ)) :
    liftR T X.K W w σ H fun v H1 => tl σ H1 fun l H2 => th σ H2 fun u H3 => R v l u H3 := by
  refine ⟨G, ρ, r, h.mono _ _ _ _ _ (fun x hx v H1 r1 t1 => ?_) (fun _ z => z) q⟩
  obtain ⟨G1, eO, r1', keep⟩ := r1.hold t1
  refine hl G1 ρ σ H1 _ r1' (ml _ _ _ _ _ (fun l hl2 H2 r2 => ?_) (fun x hx => exOut_hold eO (fun H' z => (keep H' z).1) x hx) hx)
  refine hh G1 ρ σ H2 _ r2 (mh _ _ _ _ _ (fun u hu H3 r3 => ?_) (fun x hx => exOut_hold eO (fun H' z => (keep H' z).1) x hx) hl2)
  obtain ⟨r4, t4, _⟩ := keep H3 r3
  exact hR v x l u H3 hu r4 t4
theorem df_sl {w : PW} {wl wh : PWo} {lo hi : Option Expr} {p2 : Pos} (h : DR T X W e w) (hl : DO T X W lo wl) (hh : DO T X W hi wh) : DF T X W (.Subscript e (.Slice lo hi none p2) pos) (wSl fSlL w wl wh) := by
  obtain ⟨⟨tl, pl, ql⟩, ml⟩ := hl
  obtain ⟨⟨th, ph, qh⟩, mh⟩ := hh
  refine ⟨pe_mono (pe_slice sl_list h.pe pl ph) fun σ H Q q => ?_, mono_Sl mono_SlL h.mono ml mh⟩
  obtain ⟨G, ρ, r, q⟩ := q
  refine sl_core (lo := lo) (hi := hi) h ml mh ql qh r (fun v d l u H' hd r' t => ?_) q
  cases d with
  | list xs =>
    obtain ⟨a, vs, rfl, ha, hx⟩ := t.da
    refine ⟨a, vs, rfl, SqL.of ha, fun p hp => ?_⟩
    obtain ⟨r2, na, ap, h1, h2⟩ := r'.newL hp (cut_da hx l u)
    exact hd p _ _ _ rfl r2 na ap h1 h2
  | _ => exact hd.elim
theorem sl_d : SlR X fun x lo hi H Q => rSlA X.K x lo hi H Q ∨ rSlS x lo hi H Q := by
  intro pins s σ H x v vl vu lo hi sl Q I rx hs pl pu h
  rcases h with h | h
  · exact sl_tupA pins s σ H x v vl vu lo hi sl Q I rx hs pl pu h
  · exact sl_str pins s σ H x v vl vu lo hi sl Q I rx hs pl pu h
theorem cut_whole (xs : List PyData) (lo hi : Option Int) (h : HT.sIx xs.length 0 lo = 0 ∧ HT.sIx xs.length xs.length hi = xs.length) : cutD xs lo hi = xs := by
  unfold cutD
  rw [h.1, h.2, List.drop_zero, Nat.sub_zero, List.take_length]
theorem de_sl {w : PW} {wl wh : PWo} {lo hi : Option Expr} {p2 : Pos} (h : DR T X W e w) (hl : DO T X W lo wl) (hh : DO T X W hi wh) : DE T X W (.Subscript e (.Slice lo hi none p2) pos) (wSl fSlS w wl wh) := by
  obtain ⟨⟨tl, pl, ql⟩, ml⟩ := hl
  obtain ⟨⟨th, ph, qh⟩, mh⟩ := hh
  refine ⟨pe_mono (pe_slice sl_d h.pe pl ph) fun σ H Q q => ?_, mono_Sl mono_SlS h.mono ml mh⟩
  obtain ⟨G, ρ, r, q⟩ := q
  refine sl_core (lo := lo) (hi := hi) h ml mh ql qh r (fun v d l u H' hd r' t => ?_) q
  cases d with
  | tuple xs =>
    obtain ⟨a, vs, rfl, ha', ha, hx⟩ := t.tup
    refine .inl ⟨a, vs, rfl, ha, fun hw => hd _ H' r' ?_, fun _ p hp => ?_⟩
    · rw [cut_whole xs l u (by rw [← hx.length]; exact hw)]
      exact ha'
    · obtain ⟨r2, e2, np, h2⟩ := r'.new (o := .tup (cutV vs l u)) hp
      exact hd _ _ r2 (.tup h2 ((cut_da hx l u).ext e2))
  | str z =>
    have e := t.str
    subst e
    exact .inr ⟨z, rfl, hd.1, hd.2 _ H' r' (.str _)⟩
  | _ => exact hd.elim
/-! ### built-ins of one argument -/
def w1 (f : PyData → (PyData → Prop) → Prop) (w : PW) : PW := fun ρ Q E => w ρ (fun x => f x Q) E
def MonoF1 (f : PyData → (PyData → Prop) → Prop) : Prop := ∀ x Q Q', (∀ d, Q d → Q' d) → f x Q → f x Q'
theorem mono_1 {f : PyData → (PyData → Prop) → Prop} {w : PW} (mf : MonoF1 f) (m : Mono w) : Mono (w1 f w) := fun ρ Q Q' E E' hq he h => m _ _ _ _ _ (fun x hx => mf _ _ _ hq hx) he h
def CallD (T : Tb) (X : Cx) (g : Value) (f : PyData → (PyData → Prop) → Prop) : Prop :=
  CallR X g fun xs H Q => ∃ (x : V) (G : Gh) (ρ : En) (σ : L2.St) (d : PyData), xs = [x] ∧ Rep T X.K G ρ σ H ∧ Top X.K T.dc G.O H x d ∧ f d fun r => ∀ v H', Rep T X.K G ρ σ H' → Da X.K (hide G.O H') v r → Q v H'
def CallF (T : Tb) (X : Cx) (g : Value) (f : PyData → (PyData → Prop) → Prop) : Prop :=
  CallR X g fun xs H Q => ∃ (x : V) (G : Gh) (ρ : En) (σ : L2.St) (d : PyData), xs = [x] ∧ Rep T X.K G ρ σ H ∧ Top X.K T.dc G.O H x d ∧ f d fun r => ∀ a vs ds H', r = .list ds → Rep T X.K ⟨G.Hb, a :: G.O, G.fl⟩ ρ σ H' → a ∉ G.O → Apt ρ σ a → H' a = some (.lst vs) → DaAll X.K (hide (a :: G.O) H') vs ds → Q (.ref a) H'
/-- a row of one, read only -/
theorem pa_one {te : TE} {t : V → Hp → Prop} (h : PE X e te) (hs : starEach [e] X.env = (false, eval e X.env) :: starEach [] X.env := by rfl) : PA X [e] (tCons te tNil) := pa_cons h pa_nil hs
theorem one_core {w : PW} {f : PyData → (PyData → Prop) → Prop} {Q : VK} {P : PyData → Prop} {R : List V → Hp → Prop} (h : DR T X W e w) (r : Rep T X.K G ρ σ H) (q : w ρ (fun d => f d P) (exOut T X.K W G ρ σ))
    (hR : ∀ v d H', f d P → Rep T X.K G ρ σ H' → Top X.K T.dc G.O H' v d → R [v] H') : tCons (liftR T X.K W w) tNil σ H R :=
  ⟨G, ρ, r, h.mono _ _ _ _ _ (fun d hd v H' r' t => hR v d H' hd r' t) (fun _ z => z) q⟩
theorem de_callB {x : Str} {id : String} {f : PyData → (PyData → Prop) → Prop} {w : PW} (hc : CallD T X (.builtin id) f) (mf : MonoF1 f) (hg : Gl X x) (hm : X.mg x = none) (hv : bootBuiltins x = some (.builtin id)) (h : DR T X W e w)
    (hn : x ≠ "__name__" := by decide) (hdb : (x == ("__debug__" : Str)) = false := by decide) (he : starEach [e] X.env = (false, eval e X.env) :: starEach [] X.env := by rfl) :
    DE T X W (.Call (.Name x p) [e] [] pos) (w1 f w) :=
  ⟨pe_mono (pe_callB hc hg hm hv (pa_cons h.pe pa_nil he) hn hdb he rfl) fun σ H Q q => by
    obtain ⟨G, ρ, r, q⟩ := q
    exact one_core (Q := Q) h r q fun v d H' hd r' t => ⟨v, G, ρ, σ, d, rfl, r', t, hd⟩, mono_1 mf h.mono⟩
theorem de_callTy {x : Str} {id : String} {f : PyData → (PyData → Prop) → Prop} {w : PW} (hc : CallD T X (.type id) f) (mf : MonoF1 f) (hg : Gl X x) (hm : X.mg x = none) (hv : bootBuiltins x = some (.type id)) (h : DR T X W e w)
    (hn : x ≠ "__name__" := by decide) (hdb : (x == ("__debug__" : Str)) = false := by decide) (he : starEach [e] X.env = (false, eval e X.env) :: starEach [] X.env := by rfl) :
    DE T X W (.Call (.Name x p) [e] [] pos) (w1 f w) :=
  ⟨pe_mono (pe_callTy hc hg hm hv (pa_cons h.pe pa_nil he) hn hdb he rfl) fun σ H Q q => by
    obtain ⟨G, ρ, r, q⟩ := q
    exact one_core (Q := Q) h r q fun v d H' hd r' t => ⟨v, G, ρ, σ, d, rfl, r', t, hd⟩, mono_1 mf h.mono⟩
theorem df_callB {x : Str} {id : String} {f : PyData → (PyData → Prop) → Prop} {w : PW} (hc : CallF T X (.builtin id) f) (mf : MonoF1 f) (hg : Gl X x) (hm : X.mg x = none) (hv : bootBuiltins x = some (.builtin id)) (h : DR T X W e w)
    (hn : x ≠ "__name__" := by decide) (hdb : (x == ("__debug__" : Str)) = false := by decide) (he : starEach [e] X.env = (false, eval e X.env) :: starEach [] X.env := by rfl) :
    DF T X W (.Call (.Name x p) [e] [] pos) (w1 f w) :=
  ⟨pe_mono (pe_callB hc hg hm hv (pa_cons h.pe pa_nil he) hn hdb he rfl) fun σ H Q q => by
    obtain ⟨G, ρ, r, q⟩ := q
    exact one_core (Q := Q) h r q fun v d H' hd r' t => ⟨v, G, ρ, σ, d, rfl, r', t, hd⟩, mono_1 mf h.mono⟩
theorem df_callTy {x : Str} {id : String} {f : PyData → (PyData → Prop) → Prop} {w : PW} (hc : CallF T X (.type id) f) (mf : MonoF1 f) (hg : Gl X x) (hm : X.mg x = none) (hv : bootBuiltins x = some (.type id)) (h : DR T X W e w)
    (hn : x ≠ "__name__" := by decide) (hdb : (x == ("__debug__" : Str)) = false := by decide) (he : starEach [e] X.env = (false, eval e X.env) :: starEach [] X.env := by rfl) :
    DF T X W (.Call (.Name x p) [e] [] pos) (w1 f w) :=
  ⟨pe_mono (pe_callTy hc hg hm hv (pa_cons h.pe pa_nil he) hn hdb he rfl) fun σ H Q q => by
    obtain ⟨G, ρ, r, q⟩ := q
    exact one_core (Q := Q) h r q fun v d H' hd r' t => ⟨v, G, ρ, σ, d, rfl, r', t, hd⟩, mono_1 mf h.mono⟩
/-- len -/
def fLen : PyData → (PyData → Prop) → Prop
  | .list xs, Q => Q (.int xs.length)
  | .tuple xs, Q => Q (.int xs.length)
  | .str z, Q => z.length ≤ sizeLine ∧ Q (.int z.length)
  | _, _ => False
theorem mono_len : MonoF1 fLen := fun x Q Q' hq h => by cases x <;> first | exact hq _ h | exact ⟨h.1, hq _ h.2⟩ | exact h
theorem cd_len : CallD T X (.builtin "len") fLen := by
  intro pins s σ0 H xs us Q I rx q
  obtain ⟨x, G, ρ, σ, d, rfl, r, t, q⟩ := q
  cases d with
  | list ds =>
    obtain ⟨a, vs, rfl, ha, hx⟩ := t.da
    exact call_len pins s σ0 H _ us Q I rx ⟨_, vs.length, rfl, .inl ⟨vs, SqL.of ha, rfl⟩, by rw [hx.length]; exact q _ H r (.int _)⟩
  | tuple ds =>
    obtain ⟨a, vs, rfl, _, ha, hx⟩ := t.tup
    exact call_len pins s σ0 H _ us Q I rx ⟨_, vs.length, rfl, .inr ⟨vs, ha, rfl⟩, by rw [hx.length]; exact q _ H r (.int _)⟩
  | str z =>
    have e := t.str
    subst e
    exact call_len pins s σ0 H _ us Q I rx ⟨_, z.length, rfl, ⟨q.1, rfl⟩, q.2 _ H r (.int _)⟩
  | _ => exact q.elim
/-- tuple(xs) -/
def fTuple : PyData → (PyData → Prop) → Prop
  | .list xs, Q => Q (.tuple xs)
  | .tuple xs, Q => Q (.tuple xs)
  | _, _ => False
theorem mono_tuple : MonoF1 fTuple := fun x Q Q' hq h => by cases x <;> first | exact hq _ h | exact h
theorem cd_tuple : CallD T X (.type "tuple") fTuple := by
  intro pins s σ0 H xs us Q I rx q
  obtain ⟨x, G, ρ, σ, d, rfl, r, t, q⟩ := q
  cases d with
  | list ds =>
    obtain ⟨a, vs, rfl, ha, hx⟩ := t.da
    refine call_tuple_of pins s σ0 H _ us Q I rx ⟨a, vs, rfl, .inl ⟨SqL.of ha, fun p hp => ?_⟩⟩
    obtain ⟨r2, e2, np, h2⟩ := r.new (o := .tup vs) hp
    exact q _ _ r2 (.tup h2 (hx.ext e2))
  | tuple ds =>
    obtain ⟨a, vs, rfl, ha', ha, hx⟩ := t.tup
    exact call_tuple_of pins s σ0 H _ us Q I rx ⟨a, vs, rfl, .inr ⟨ha, q _ H r ha'⟩⟩
  | _ => exact q.elim
/-- list(xs), new -/
def fList : PyData → (PyData → Prop) → Prop
  | .list xs, Q => Q (.list xs)
  | .tuple xs, Q => Q (.list xs)
  | _, _ => False
theorem mono_list : MonoF1 fList := fun x Q Q' hq h => by cases x <;> first | exact hq _ h | exact h
theorem cf_list : CallF T X (.type "list") fList := by
  intro pins s σ0 H xs us Q I rx q
  obtain ⟨x, G, ρ, σ, d, rfl, r, t, q⟩ := q
  cases d with
  | list ds =>
    obtain ⟨a, vs, rfl, ha, hx⟩ := t.da
    refine call_list_of pins s σ0 H _ us Q I rx ⟨a, vs, rfl, .inl (SqL.of ha), fun p hp => ?_⟩
    obtain ⟨r2, na, ap, h1, h2⟩ := r.newL hp hx
    exact q p _ _ _ rfl r2 na ap h1 h2
  | tuple ds =>
    obtain ⟨a, vs, rfl, ha', ha, hx⟩ := t.tup
    refine call_list_of pins s σ0 H _ us Q I rx ⟨a, vs, rfl, .inr ha, fun p hp => ?_⟩
    obtain ⟨r2, na, ap, h1, h2⟩ := r.newL hp hx
    exact q p _ _ _ rfl r2 na ap h1 h2
  | _ => exact q.elim
/-- int(n), int(flag); str(n); abs(n) -/
def fInt : PyData → (PyData → Prop) → Prop
  | .int i, Q => Q (.int i)
  | .bool k, Q => Q (.int (if k then 1 else 0))
  | _, _ => False
theorem mono_int : MonoF1 fInt := fun x Q Q' hq h => by cases x <;> first | exact hq _ h | exact h
theorem cd_int : CallD T X (.type "int") fInt := by
  intro pins s σ0 H xs us Q I rx q
  obtain ⟨x, G, ρ, σ, d, rfl, r, t, q⟩ := q
  cases d with
  | int i => have e := t.int; subst e; exact call_int1 pins s σ0 H _ us Q I rx (.inl ⟨i, rfl, q _ H r (.int _)⟩)
  | bool i => have e := t.bl; subst e; exact call_int1 pins s σ0 H _ us Q I rx (.inr ⟨i, rfl, q _ H r (.int _)⟩)
  | _ => exact q.elim
def fStrI : PyData → (PyData → Prop) → Prop
  | .int i, Q => i.natAbs.log2 < 1920 ∧ Q (.str (toString i))
  | _, _ => False
theorem mono_strI : MonoF1 fStrI := fun x Q Q' hq h => by cases x <;> first | exact ⟨h.1, hq _ h.2⟩ | exact h
theorem cd_strI : CallD T X (.type "str") fStrI := by
  intro pins s σ0 H xs us Q I rx q
  obtain ⟨x, G, ρ, σ, d, rfl, r, t, q⟩ := q
  cases d with
  | int i => have e := t.int; subst e; exact call_str_int pins s σ0 H _ us Q I rx ⟨i, rfl, q.1, q.2 _ H r (.str _)⟩
  | _ => exact q.elim
def fAbs : PyData → (PyData → Prop) → Prop
  | .int i, Q => Q (.int (if i < 0 then -i else i))
  | _, _ => False
theorem mono_abs : MonoF1 fAbs := fun x Q Q' hq h => by cases x <;> first | exact hq _ h | exact h
theorem cd_abs : CallD T X (.builtin "abs") fAbs := by
  intro pins s σ0 H xs us Q I rx q
  obtain ⟨x, G, ρ, σ, d, rfl, r, t, q⟩ := q
  cases d with
  | int i => have e := t.int; subst e; exact call_abs pins s σ0 H _ us Q I rx ⟨i, rfl, q _ H r (.int _)⟩
  | _ => exact q.elim
end
end PL
set_option Elab.async false
set_option linter.all false
set_option maxRecDepth 100000
set_option maxHeartbeats 2000000
namespace PL
open PySem PySem.Spec PyProof.Rows L2
open LamX (ExtN Tabs TabS)
section
variable {T : Tb} {X : Cx} {W : WX} {pos p apos : Pos} {e a b c o : Expr} {K : PySem.W.Frag} {G : Gh} {ρ : En} {σ : L2.St} {H H' : Hp}
/-! ### the first least, the first greatest -/
def fMin : PyData → (PyData → Prop) → Prop
  | .list (x :: xs), Q => (PyData.plainAll (x :: xs) = true ∧ PyData.depthAll (x :: xs) ≤ 30 ∧ PySem.W.AlikeAll (x :: xs)) ∧ Q (PySem.W.minD x xs)
  | .tuple (x :: xs), Q => (PyData.plainAll (x :: xs) = true ∧ PyData.depthAll (x :: xs) ≤ 30 ∧ PySem.W.AlikeAll (x :: xs)) ∧ Q (PySem.W.minD x xs)
  | _, _ => False
def fMax : PyData → (PyData → Prop) → Prop
  | .list (x :: xs), Q => (PyData.plainAll (x :: xs) = true ∧ PyData.depthAll (x :: xs) ≤ 30 ∧ PySem.W.AlikeAll (x :: xs)) ∧ Q (PySem.W.maxD x xs)
  | .tuple (x :: xs), Q => (PyData.plainAll (x :: xs) = true ∧ PyData.depthAll (x :: xs) ≤ 30 ∧ PySem.W.AlikeAll (x :: xs)) ∧ Q (PySem.W.maxD x xs)
  | _, _ => False
theorem mono_min : MonoF1 fMin := fun x Q Q' hq h => by
  unfold fMin at h ⊢
  split at h
  · exact ⟨h.1, hq _ h.2⟩
  · exact ⟨h.1, hq _ h.2⟩
  · exact h
theorem mono_max : MonoF1 fMax := fun x Q Q' hq h => by
  unfold fMax at h ⊢
  split at h
  · exact ⟨h.1, hq _ h.2⟩
  · exact ⟨h.1, hq _ h.2⟩
  · exact h
theorem plain_of_mem : ∀ {ds : List PyData} {d : PyData}, PyData.plainAll ds = true → d ∈ ds → d.plain = true
  | [], _, _, h => by cases h
  | x :: xs, d, p, h => by
    simp only [PyData.plainAll, Bool.and_eq_true] at p
    rcases List.mem_cons.mp h with e | h
    · rw [e]; exact p.1
    · exact plain_of_mem p.2 h
/-- an item that reads as m is m -/
theorem item_is {pins : List (Addr × Obj)} {σ' : L2.St} {s : Shared} {O : List Addr} {vs : List V} {us : List Value} {ds : List PyData} {i : Nat} {u : Value} {m : PyData} {h' : Heap} {bs : List Addr} (I : Inv X pins σ' H s) (rv : Vals vs us) (ha : DaAll X.K (hide O H) vs ds) (pl : PyData.plainAll ds = true)
    (hu : us[i]? = some u) (k : ∀ b o, s.heap.get? b = some o → h'.get? b = some o) (rd : Reads h' u m bs) : ∃ v, RelV v u ∧ Da X.K (hide O H) v m := by
  obtain ⟨v, hv⟩ : ∃ v, vs[i]? = some v := by
    have : i < us.length := (List.getElem?_eq_some_iff.mp hu).1
    exact ⟨_, List.getElem?_eq_getElem (by rw [rv.length]; exact this)⟩
  obtain ⟨u', hu', r⟩ := rv.get hv
  rw [hu] at hu'
  cases hu'
  obtain ⟨d, hd, hda⟩ := ha.get hv
  have pd := plain_of_mem pl (List.mem_of_getElem? hd)
  obtain ⟨as, rr⟩ := Dp.reads I d v u (hda.whole.dp pd) r
  have e := SeqAt.plain_unique d m u as bs pd (PyProof.Rows.Reads.keeps k rr) rd
  exact ⟨v, r, by rw [← e]; exact hda⟩
theorem cd_min {k : Nat} (hr : Room k X.A) : CallD T X (.builtin "min") fMin := by
  intro pins s σ0 H xs us Q I rx q
  obtain ⟨x, G, ρ, σ, d, rfl, r, t, q⟩ := q
  have hu := hr.un
  unfold fMin at q
  cases rx with
  | cons r1 r2 =>
    cases r2
    split at q
    · rename_i y ys
      obtain ⟨⟨pl, dp, al⟩, q⟩ := q
      obtain ⟨a, vs, rfl, ha, hx⟩ := t.da
      cases r1
      obtain ⟨its, rv, pl', hz⟩ := I.list (SqL.of ha)
      obtain ⟨as, rr⟩ := Dp.readsAll I _ vs its (hx.whole.dp pl) rv
      refine PySem.W.min_list_data hr.hd (by obtain ⟨o, n, e1, e2, e3, e4⟩ := pl'; exact ⟨o, e1, e2, n, e4⟩) rr al (by omega) fun i v h' tk bs hi rd kp => ?_
      obtain ⟨w, rw', hw⟩ := item_is I rv hx pl (by simpa using hi) kp rd
      exact ⟨w, H, I.kept kp, rw', q w H r hw⟩
    · rename_i y ys
      obtain ⟨⟨pl, dp, al⟩, q⟩ := q
      obtain ⟨a, vs, rfl, _, ha, hx⟩ := t.tup
      cases r1
      obtain ⟨its, rv, pl', hz⟩ := I.tuple ha
      obtain ⟨as, rr⟩ := Dp.readsAll I _ vs its (hx.whole.dp pl) rv
      refine PySem.W.min_tuple_data hr.hd pl' rr al (by omega) fun i v h' tk bs hi rd kp => ?_
      obtain ⟨w, rw', hw⟩ := item_is I rv hx pl (by simpa using hi) kp rd
      exact ⟨w, H, I.kept kp, rw', q w H r hw⟩
    · exact q.elim
theorem cd_max {k : Nat} (hr : Room k X.A) : CallD T X (.builtin "max") fMax := by
  intro pins s σ0 H xs us Q I rx q
  obtain ⟨x, G, ρ, σ, d, rfl, r, t, q⟩ := q
  have hu := hr.un
  unfold fMax at q
  cases rx with
  | cons r1 r2 =>
    cases r2
    split at q
    · rename_i y ys
      obtain ⟨⟨pl, dp, al⟩, q⟩ := q
      obtain ⟨a, vs, rfl, ha, hx⟩ := t.da
      cases r1
      obtain ⟨its, rv, pl', hz⟩ := I.list (SqL.of ha)
      obtain ⟨as, rr⟩ := Dp.readsAll I _ vs its (hx.whole.dp pl) rv
      refine PySem.W.max_list_data hr.hd (by obtain ⟨o, n, e1, e2, e3, e4⟩ := pl'; exact ⟨o, e1, e2, n, e4⟩) rr al (by omega) fun i v h' tk bs hi rd kp => ?_
      obtain ⟨w, rw', hw⟩ := item_is I rv hx pl (by simpa using hi) kp rd
      exact ⟨w, H, I.kept kp, rw', q w H r hw⟩
    · rename_i y ys
      obtain ⟨⟨pl, dp, al⟩, q⟩ := q
      obtain ⟨a, vs, rfl, _, ha, hx⟩ := t.tup
      cases r1
      obtain ⟨its, rv, pl', hz⟩ := I.tuple ha
      obtain ⟨as, rr⟩ := Dp.readsAll I _ vs its (hx.whole.dp pl) rv
      refine PySem.W.max_tuple_data hr.hd pl' rr al (by omega) fun i v h' tk bs hi rd kp => ?_
      obtain ⟨w, rw', hw⟩ := item_is I rv hx pl (by simpa using hi) kp rd
      exact ⟨w, H, I.kept kp, rw', q w H r hw⟩
    · exact q.elim
/-! ### sorted of a list -/
def fSorted : PyData → (PyData → Prop) → Prop
  | .list xs, Q => (PyData.plainAll xs = true ∧ (∀ d ∈ xs, d.depth ≤ 30) ∧ PySem.W.AllAlike xs ∧ PySem.W.Sortable xs) ∧ Q (.list (xs.mergeSort (PySem.W.dataLe false id)))
  | _, _ => False
theorem mono_sorted : MonoF1 fSorted := fun x Q Q' hq h => by
  unfold fSorted at h ⊢
  split at h
  · exact ⟨h.1, hq _ h.2⟩
  · exact h
theorem each_da {O : List Addr} : ∀ {vs : List V} {us : List Value} {ds : List PyData}, Vals vs us → DaAll K (hide O H) vs ds → PySem.W.EachIs (fun u d => ∃ v, RelV v u ∧ Da K (hide O H) v d) us ds
  | _, _, _, .nil, .nil => .nil
  | _, _, _, .cons r rs, .cons h hs => .cons ⟨_, r, h⟩ (each_da rs hs)
theorem each_out {O : List Addr} : ∀ {us : List Value} {ds : List PyData}, PySem.W.EachIs (fun u d => ∃ v, RelV v u ∧ Da K (hide O H) v d) us ds → ∃ vs, Vals vs us ∧ DaAll K (hide O H) vs ds
  | _, _, .nil => ⟨[], .nil, .nil⟩
  | _, _, .cons ⟨v, r, h⟩ t => by
    obtain ⟨vs, rs, hs⟩ := each_out t
    exact ⟨v :: vs, .cons r rs, .cons h hs⟩
theorem each_reads {pins : List (Addr × Obj)} {σ' : L2.St} {s : Shared} {O : List Addr} (I : Inv X pins σ' H s) : ∀ {vs : List V} {us : List Value} {ds : List PyData}, Vals vs us → DaAll X.K (hide O H) vs ds → PyData.plainAll ds = true → PySem.W.EachIs (fun u d => ∃ as, Reads s.heap u (id d) as) us ds
  | _, _, _, .nil, .nil, _ => .nil
  | _, _, _, .cons r rs, .cons h hs, p => by
    simp only [PyData.plainAll, Bool.and_eq_true] at p
    exact .cons (Dp.reads I _ _ _ (h.whole.dp p.1) r) (each_reads I rs hs p.2)
theorem cf_sorted {k : Nat} (hr : Room k X.A) : CallF T X (.builtin "sorted") fSorted := by
  intro pins s σ0 H xs us Q I rx q
  obtain ⟨x, G, ρ, σ, d, rfl, r, t, q⟩ := q
  have hu := hr.un
  unfold fSorted at q
  cases rx with
  | cons r1 r2 =>
    cases r2
    split at q
    · rename_i ds
      obtain ⟨⟨pl, dp, al, so⟩, q⟩ := q
      obtain ⟨a, vs, rfl, ha, hx⟩ := t.da
      cases r1
      obtain ⟨its, rv, pl', hz⟩ := I.list (SqL.of ha)
      refine PySem.W.sorted_data (R := fun u d => ∃ v, RelV v u ∧ Da X.K (hide G.O H) v d) (enc := id) (by obtain ⟨o, n, e1, e2, e3, e4⟩ := pl'; exact ⟨o, e1, e2, n, e4⟩) (each_da rv hx) (each_reads I rv hx pl) (by rw [List.map_id]; exact al) (by rw [List.map_id]; exact so) (by rw [← hx.length]; exact hz) (fun b hb => by have := dp b hb; show _ + 2 + b.depth < _; omega) fun out hl eo => ?_
      obtain ⟨ws, rw', hw⟩ := each_out eo
      obtain ⟨ep, he'⟩ := PyProof.Rows.sortedAll_at s.heap its out.toArray
      have hn : H (s.heap.objs.size + 1) = none := I.hok.fresh (Nat.le_succ _)
      have hlen : ws.length ≤ sizeLine := by rw [rw'.length, hl, ← hx.length]; exact hz
      obtain ⟨r2, na, ap, h1, h2⟩ := r.newL hn hw
      exact ⟨.ref _, upd H (s.heap.objs.size + 1) (.lst ws), I.laid (t' := s.toks) (fun _ _ => PyProof.Rows.sortedAll_old) (Nat.le_succ _) ⟨hlen, out, ep, rw', he'⟩, rfl, q _ _ _ _ rfl r2 na ap h1 h2⟩
    · exact q.elim
/-! ### sum of a list of ints -/
def allInts : List PyData → Option (List Int)
  | [] => some []
  | .int i :: r => (allInts r).map (i :: ·)
  | _ :: _ => none
theorem allInts_eq : ∀ {ds : List PyData} {ns : List Int}, allInts ds = some ns → ds = ns.map .int
  | [], ns, h => by cases h; rfl
  | d :: r, ns, h => by
    cases d <;> simp only [allInts] at h <;> try cases h
    rename_i i
    cases e : allInts r with
    | none => rw [e] at h; cases h
    | some ms =>
      rw [e] at h
      cases h
      rw [allInts_eq e]
      rfl
theorem allInts_map : ∀ ns : List Int, allInts (ns.map .int) = some ns
  | [] => rfl
  | n :: r => by
    rw [List.map_cons]
    show (allInts (r.map .int)).map (n :: ·) = _
    rw [allInts_map r]
    rfl
def fSum : PyData → (PyData → Prop) → Prop
  | .list xs, Q => match allInts xs with | some ns => Q (.int ns.sum) | none => False
  | _, _ => False
theorem mono_sum : MonoF1 fSum := fun x Q Q' hq h => by
  unfold fSum at h ⊢
  split at h
  · split at h
    · exact hq _ h
    · exact h
  · exact h
theorem cd_sum {k : Nat} (hr : Room k X.A) : CallD T X (.builtin "sum") fSum := by
  intro pins s σ0 H xs us Q I rx q
  obtain ⟨x, G, ρ, σ, d, rfl, r, t, q⟩ := q
  unfold fSum at q
  cases rx with
  | cons r1 r2 =>
    cases r2
    split at q
    · split at q
      · rename_i ns hns
        have e := allInts_eq hns
        subst e
        obtain ⟨a, vs, rfl, ha, hx⟩ := t.da
        have e := hx.ints
        subst e
        cases r1
        obtain ⟨its, rv, pl', hz⟩ := I.list (SqL.of ha)
        exact sum_raw hr.hd pl'.isList rv.ints fun h' tk t' hk => ⟨.int _, H, I.kept hk, ⟨_, rfl⟩, q _ H r (.int _)⟩
      · exact q.elim
    · exact q.elim
/-! ### built-ins of several arguments -/
def wA (f : List PyData → (PyData → Prop) → Prop) (ws : PWs) : PW := fun ρ Q E => ws ρ (fun ds => f ds Q) E
def MonoFA (f : List PyData → (PyData → Prop) → Prop) : Prop := ∀ x Q Q', (∀ d, Q d → Q' d) → f x Q → f x Q'
theorem mono_A {f : List PyData → (PyData → Prop) → Prop} {w : PWs} (mf : MonoFA f) (m : Mono w) : Mono (wA f w) := fun ρ Q Q' E E' hq he h => m _ _ _ _ _ (fun x hx => mf _ _ _ hq hx) he h
def CallDA (T : Tb) (X : Cx) (g : Value) (f : List PyData → (PyData → Prop) → Prop) : Prop :=
  CallR X g fun xs H Q => ∃ (G : Gh) (ρ : En) (σ : L2.St) (ds : List PyData), Rep T X.K G ρ σ H ∧ DaAll X.K (hide G.O H) xs ds ∧ f ds fun r => ∀ v H', Rep T X.K G ρ σ H' → Da X.K (hide G.O H') v r → Q v H'
theorem de_callBA {x : Str} {id : String} {f : List PyData → (PyData → Prop) → Prop} {ws : PWs} {es : List Expr} (hc : CallDA T X (.builtin id) f) (mf : MonoFA f) (hg : Gl X x) (hm : X.mg x = none) (hv : bootBuiltins x = some (.builtin id)) (h : DA T X W (e :: es) ws)
    (hn : x ≠ "__name__" := by decide) (hdb : (x == ("__debug__" : Str)) = false := by decide) (he : starEach (e :: es) X.env = (false, eval e X.env) :: starEach es X.env := by rfl) (hpl : (backTo pos (starEach es X.env)).any (·.1) = false := by rfl) :
    DE T X W (.Call (.Name x p) (e :: es) [] pos) (wA f ws) :=
  ⟨pe_mono (pe_callB hc hg hm hv h.pa hn hdb he hpl) fun σ H Q q => by
    obtain ⟨G, ρ, r, q⟩ := q
    exact ⟨G, ρ, r, h.mono _ _ _ _ _ (fun ds hd vs H' r' a => ⟨G, ρ, σ, ds, r', a, hd⟩) (fun _ z => z) q⟩, mono_A mf h.mono⟩
def fMax2 : List PyData → (PyData → Prop) → Prop
  | [.int i, .int j], Q => Q (.int (if j > i then j else i))
  | _, _ => False
def fMin2 : List PyData → (PyData → Prop) → Prop
  | [.int i, .int j], Q => Q (.int (if j < i then j else i))
  | _, _ => False
theorem mono_max2 : MonoFA fMax2 := fun x Q Q' hq h => by
  unfold fMax2 at h ⊢
  split at h
  · exact hq _ h
  · exact h
theorem mono_min2 : MonoFA fMin2 := fun x Q Q' hq h => by
  unfold fMin2 at h ⊢
  split at h
  · exact hq _ h
  · exact h
theorem cda_max2 (hc : X.calm = true) : CallDA T X (.builtin "max") fMax2 := by
  intro pins s σ0 H xs us Q I rx q
  obtain ⟨G, ρ, σ, ds, r, a, q⟩ := q
  unfold fMax2 at q
  split at q
  · cases a with
    | cons h1 a => cases a with
      | cons h2 a =>
        cases a
        cases h1
        cases h2
        exact call_max2 hc pins s σ0 H _ us Q I rx ⟨_, _, rfl, q _ H r (.int _)⟩
  · exact q.elim
theorem cda_min2 (hc : X.calm = true) : CallDA T X (.builtin "min") fMin2 := by
  intro pins s σ0 H xs us Q I rx q
  obtain ⟨G, ρ, σ, ds, r, a, q⟩ := q
  unfold fMin2 at q
  split at q
  · cases a with
    | cons h1 a => cases a with
      | cons h2 a =>
        cases a
        cases h1
        cases h2
        exact call_min2 hc pins s σ0 H _ us Q I rx ⟨_, _, rfl, q _ H r (.int _)⟩
  · exact q.elim
/-! ### texts -/
def allStrs : List PyData → Option (List Str)
  | [] => some []
  | .str i :: r => (allStrs r).map (i :: ·)
  | _ :: _ => none
theorem allStrs_eq : ∀ {ds : List PyData} {ns : List Str}, allStrs ds = some ns → ds = ns.map .str
  | [], ns, h => by cases h; rfl
  | d :: r, ns, h => by
    cases d <;> simp only [allStrs] at h <;> try cases h
    rename_i i
    cases e : allStrs r with
    | none => rw [e] at h; cases h
    | some ms =>
      rw [e] at h
      cases h
      rw [allStrs_eq e]
      rfl
theorem allStrs_map : ∀ ns : List Str, allStrs (ns.map .str) = some ns
  | [] => rfl
  | n :: r => by
    rw [List.map_cons]
    show (allStrs (r.map .str)).map (n :: ·) = _
    rw [allStrs_map r]
    rfl
theorem DaAll.strs : ∀ {vs : List V} (ns : List Str), DaAll K H vs (ns.map .str) → vs = ns.map V.str
  | _, [], .nil => rfl
  | _, n :: r, .cons h t => by
    cases h
    rw [DaAll.strs r t]
    rfl
theorem daAll_strs : ∀ (ns : List Str), DaAll K H (ns.map V.str) (ns.map .str)
  | [] => .nil
  | n :: r => .cons (.str n) (daAll_strs r)
/-- a method of a text with one argument -/
def wM1 (f : Str → PyData → (PyData → Prop) → Prop) (wa wb : PW) : PW := fun ρ Q E => wa ρ (fun x => match x with | .str a => wb ρ (fun y => f a y Q) E | _ => False) E
def MonoM (f : Str → PyData → (PyData → Prop) → Prop) : Prop := ∀ x y Q Q', (∀ d, Q d → Q' d) → f x y Q → f x y Q'
theorem mono_M1 {f : Str → PyData → (PyData → Prop) → Prop} {wa wb : PW} (mf : MonoM f) (ma : Mono wa) (mb : Mono wb) : Mono (wM1 f wa wb) := fun ρ Q Q' E E' hq he h => ma _ _ _ _ _ (fun x hx => by
  cases x <;> first | exact mb _ _ _ _ _ (fun y hy => mf _ _ _ _ hq hy) he hx | exact hx) he h
theorem m1_core {wa wb : PW} {P : Str → PyData → Prop} {R : V → V → Hp → Prop} (ha : DE T X W o wa) (hb : DR T X W e wb) (r : Rep T X.K G ρ σ H)
    (hP : ∀ a u H' y, Rep T X.K G ρ σ H' → Top X.K T.dc G.O H' u y → P a y → R (.str a) u H')
    (q : wa ρ (fun x => match x with | .str a => wb ρ (P a) (exOut T X.K W G ρ σ) | _ => False) (exOut T X.K W G ρ σ)) :
    lift T X.K W wa σ H fun x H1 => (∃ a, x = .str a) ∧ liftR T X.K W wb σ H1 fun y H2 => R x y H2 :=
  ⟨G, ρ, r, ha.mono _ _ _ _ _ (fun x hx v H1 r1 a1 => by
    cases a1 <;> first | exact hx.elim | skip
    exact ⟨⟨_, rfl⟩, G, ρ, r1, hb.mono _ _ _ _ _ (fun y hy u H2 r2 t2 => hP _ u H2 y r2 t2 hy) (fun _ z => z) hx⟩) (fun _ z => z) q⟩
def fJoin (a : Str) : PyData → (PyData → Prop) → Prop
  | .list xs, Q => match allStrs xs with | some ys => (ys.map (·.length)).sum + ys.length * a.length ≤ 16777216 ∧ Q (.str (Txt.join a ys)) | none => False
  | .tuple xs, Q => match allStrs xs with | some ys => (ys.map (·.length)).sum + ys.length * a.length ≤ 16777216 ∧ Q (.str (Txt.join a ys)) | none => False
  | _, _ => False
theorem mono_join : MonoM fJoin := fun x y Q Q' hq h => by
  unfold fJoin at h ⊢
  split at h
  · split at h
    · exact ⟨h.1, hq _ h.2⟩
    · exact h
  · split at h
    · exact ⟨h.1, hq _ h.2⟩
    · exact h
  · exact h
theorem de_join {wa wb : PW} (ho : DE T X W o wa) (he : DR T X W e wb) (hs : starEach [e] X.env = [(false, eval e X.env)] := by rfl) (hbase : attributeBase o "join" X.env (eval o X.env) = eval o X.env := by rfl) (hline : (apos.endLine == pos.line) = true := by rfl) :
    DE T X W (.Call (.Attribute o "join" apos) [e] [] pos) (wM1 fJoin wa wb) :=
  ⟨pe_mono (pe_join ho.pe he.pe hs hbase hline) fun σ H Q q => by
    obtain ⟨G, ρ, r, q⟩ := q
    refine m1_core (P := fun a y => fJoin a y fun d => ∀ v H', Rep T X.K G ρ σ H' → Da X.K (hide G.O H') v d → Q v H') ho he r (fun a u H' y r' t hp => ?_) q
    unfold fJoin at hp
    split at hp
    · split at hp
      · rename_i xs ys hys
        have e := allStrs_eq hys
        subst e
        obtain ⟨b, vs, rfl, hb, hx⟩ := t.da
        have e := hx.strs
        subst e
        exact ⟨a, b, ys, rfl, rfl, .inl (SqL.of hb), hp.1, hp.2 _ H' r' (.str _)⟩
      · exact hp.elim
    · split at hp
      · rename_i xs ys hys
        have e := allStrs_eq hys
        subst e
        obtain ⟨b, vs, rfl, _, hb, hx⟩ := t.tup
        have e := hx.strs
        subst e
        exact ⟨a, b, ys, rfl, rfl, .inr hb, hp.1, hp.2 _ H' r' (.str _)⟩
      · exact hp.elim
    · exact hp.elim, mono_M1 mono_join ho.mono he.mono⟩
def fSplit (a : Str) : PyData → (PyData → Prop) → Prop
  | .str b, Q => ((b.length == 0) = false ∧ a.length + 2 ≤ sizeLine) ∧ Q (.list ((Txt.split a b).map .str))
  | _, _ => False
theorem mono_split : MonoM fSplit := fun x y Q Q' hq h => by
  unfold fSplit at h ⊢
  split at h
  · exact ⟨h.1, hq _ h.2⟩
  · exact h
theorem df_split {wa wb : PW} (ho : DE T X W o wa) (he : DE T X W e wb) (hs : starEach [e] X.env = [(false, eval e X.env)] := by rfl) (hbase : attributeBase o "split" X.env (eval o X.env) = eval o X.env := by rfl) (hline : (apos.endLine == pos.line) = true := by rfl) :
    DF T X W (.Call (.Attribute o "split" apos) [e] [] pos) (wM1 fSplit wa wb) :=
  ⟨pe_mono (pe_split ho.pe (dr_of he).pe hs hbase hline) fun σ H Q q => by
    obtain ⟨G, ρ, r, q⟩ := q
    refine m1_core ho (dr_of he) r (fun a u H' y r' t hp => ?_) q
    unfold fSplit at hp
    split at hp
    · rename_i b
      have e := t.str
      subst e
      refine ⟨a, b, rfl, rfl, hp.1.1, hp.1.2, fun p hpn => ?_⟩
      obtain ⟨r2, na, ap, h1, h2⟩ := r'.newL hpn (daAll_strs (Txt.split a b))
      exact hp.2 p _ _ _ rfl r2 na ap h1 h2
    · exact hp.elim, mono_M1 mono_split ho.mono he.mono⟩
def fPart (a : Str) : PyData → (PyData → Prop) → Prop
  | .str b, Q => ((b.length == 0) = false ∧ a.length ≤ sizeLine) ∧ Q (.tuple [.str (Txt.partition a b).1, .str (Txt.partition a b).2.1, .str (Txt.partition a b).2.2])
  | _, _ => False
theorem mono_part : MonoM fPart := fun x y Q Q' hq h => by
  unfold fPart at h ⊢
  split at h
  · exact ⟨h.1, hq _ h.2⟩
  · exact h
theorem de_partition {wa wb : PW} (ho : DE T X W o wa) (he : DE T X W e wb) (hs : starEach [e] X.env = [(false, eval e X.env)] := by rfl) (hbase : attributeBase o "partition" X.env (eval o X.env) = eval o X.env := by rfl) (hline : (apos.endLine == pos.line) = true := by rfl) :
    DE T X W (.Call (.Attribute o "partition" apos) [e] [] pos) (wM1 fPart wa wb) :=
  ⟨pe_mono (pe_partition ho.pe (dr_of he).pe hs hbase hline) fun σ H Q q => by
    obtain ⟨G, ρ, r, q⟩ := q
    refine m1_core (P := fun a y => fPart a y fun d => ∀ v H', Rep T X.K G ρ σ H' → Da X.K (hide G.O H') v d → Q v H') ho (dr_of he) r (fun a u H' y r' t hp => ?_) q
    unfold fPart at hp
    split at hp
    · rename_i b
      have e := t.str
      subst e
      refine ⟨a, b, rfl, rfl, hp.1.1, hp.1.2, fun p hpn => ?_⟩
      obtain ⟨r2, e2, np, h2⟩ := r'.new (o := .tup [.str (Txt.partition a b).1, .str (Txt.partition a b).2.1, .str (Txt.partition a b).2.2]) hpn
      exact hp.2 _ _ r2 (.tup h2 (.cons (.str _) (.cons (.str _) (.cons (.str _) .nil))))
    · exact hp.elim, mono_M1 mono_part ho.mono he.mono⟩
end
end PL
set_option Elab.async false
set_option linter.all false
set_option maxRecDepth 100000
set_option maxHeartbeats 2000000
namespace PL
open PySem PySem.Spec PyProof.Rows L2
open LamX (ExtN Tabs TabS)
abbrev W0 : WX := fun _ _ _ _ => False
/-! ### targets -/
abbrev GD := PyData → En → (En → Prop) → Prop
abbrev GDs := List PyData → En → (En → Prop) → Prop
def liftG (T : Tb) (K : PySem.W.Frag) (sl : List Nat) (g : GD) : TG := fun v σ H Q => ∃ G ρ d, Rep T K G ρ σ H ∧ Da K (hide G.O H) v d ∧ g d ρ fun ρ' => ∀ σ', Rep T K G ρ' σ' H → (∀ vs, (∀ i ∈ sl, i ∈ vs) → wipe σ' vs = wipe σ vs) → Q σ' H
def liftGs (T : Tb) (K : PySem.W.Frag) (sl : List Nat) (g : GDs) : TGs := fun v σ H Q => ∃ G ρ d, Rep T K G ρ σ H ∧ DaAll K (hide G.O H) v d ∧ g d ρ fun ρ' => ∀ σ', Rep T K G ρ' σ' H → (∀ vs, (∀ i ∈ sl, i ∈ vs) → wipe σ' vs = wipe σ vs) → Q σ' H
def Off (sl : List Nat) (ρ ρ' : En) : Prop := ∀ i, i ∉ sl → ρ'[i]? = ρ[i]?
def Shd (sl : List Nat) (ρ : En) : Prop := ∀ i ∈ sl, ∀ s, ρ[i]? = some s → s.owned = false
structure DG (T : Tb) (X : Cx) (sl : List Nat) (e : Expr) (g : GD) : Prop where
  pg : PG X e (liftG T X.K sl g)
  mono : ∀ d ρ Q Q', (∀ r, Q r → Q' r) → g d ρ Q → g d ρ Q'
  keep : ∀ d ρ Q, g d ρ Q → g d ρ fun ρ' => Q ρ' ∧ Off sl ρ ρ' ∧ Shd sl ρ'
structure DGs (T : Tb) (X : Cx) (sl : List Nat) (es : List Expr) (g : GDs) : Prop where
  pg : PGs X es (liftGs T X.K sl g)
  mono : ∀ d ρ Q Q', (∀ r, Q r → Q' r) → g d ρ Q → g d ρ Q'
  keep : ∀ d ρ Q, g d ρ Q → g d ρ fun ρ' => Q ρ' ∧ Off sl ρ ρ' ∧ Shd sl ρ'
theorem wipe_set {σ : L2.St} {i : Nat} {x : Option V} : ∀ {vs : List Nat}, i ∈ vs → wipe (σ.set i x) vs = wipe σ vs
  | [], h => by cases h
  | v :: vs, h => by
    show (wipe (σ.set i x) vs).set v none = (wipe σ vs).set v none
    by_cases hi : i ∈ vs
    · rw [wipe_set hi]
    · have e : i = v := (List.mem_cons.mp h).elim id fun z => absurd z hi
      subst e
      have key : ∀ {us : List Nat} {τ : L2.St}, i ∉ us → (wipe (τ.set i x) us) = (wipe τ us).set i x := fun {us} => by
        induction us with
        | nil => intro τ _; rfl
        | cons u r ih =>
          intro τ hn
          show (wipe (τ.set i x) r).set u none = ((wipe τ r).set u none).set i x
          rw [ih fun z => hn (List.mem_cons_of_mem _ z), List.set_comm _ _ (fun z => hn (by rw [z]; exact List.mem_cons_self))]
      rw [key hi, List.set_set]
theorem wipe_get {σ : L2.St} {i : Nat} : ∀ {vs : List Nat}, i ∉ vs → (wipe σ vs)[i]? = σ[i]?
  | [], _ => rfl
  | v :: vs, h => by
    show ((wipe σ vs).set v none)[i]? = _
    rw [List.getElem?_set_ne (fun z => h (by rw [z]; exact List.mem_cons_self)), wipe_get fun z => h (List.mem_cons_of_mem _ z)]
theorem wipe_in {σ : L2.St} {i : Nat} (hi : i < σ.length) : ∀ {vs : List Nat}, i ∈ vs → (wipe σ vs)[i]? = some none
  | [], h => by cases h
  | v :: vs, h => by
    show ((wipe σ vs).set v none)[i]? = _
    by_cases e : v = i
    · subst e
      rw [List.getElem?_set_self (by rw [wipe_length]; exact hi)]
    · rw [List.getElem?_set_ne e]
      exact wipe_in hi ((List.mem_cons.mp h).elim (fun z => absurd z.symm e) id)
def wipeE (ρ : En) : List Nat → En
  | [] => ρ
  | v :: vs => (wipeE ρ vs).set v .un
theorem wipeE_length (ρ : En) : ∀ vs, (wipeE ρ vs).length = ρ.length
  | [] => rfl
  | v :: vs => by
    show ((wipeE ρ vs).set v .un).length = _
    rw [List.length_set, wipeE_length ρ vs]
theorem wipeE_get {ρ : En} {i : Nat} : ∀ {vs : List Nat}, i ∉ vs → (wipeE ρ vs)[i]? = ρ[i]?
  | [], _ => rfl
  | v :: vs, h => by
    show ((wipeE ρ vs).set v .un)[i]? = _
    rw [List.getElem?_set_ne (fun z => h (by rw [z]; exact List.mem_cons_self)), wipeE_get fun z => h (List.mem_cons_of_mem _ z)]
theorem wipeE_in {ρ : En} {i : Nat} {s : Sl} : ∀ {vs : List Nat}, i ∈ vs → (wipeE ρ vs)[i]? = some s → s = .un
  | [], h, _ => by cases h
  | v :: vs, h, e => by
    have e : ((wipeE ρ vs).set v .un)[i]? = some s := e
    by_cases z : v = i
    · subst z
      by_cases hl : v < (wipeE ρ vs).length
      · rw [List.getElem?_set_self hl] at e
        exact (Option.some.inj e).symm
      · rw [List.getElem?_eq_none (by rw [List.length_set]; omega)] at e
        cases e
    · rw [List.getElem?_set_ne z] at e
      exact wipeE_in ((List.mem_cons.mp h).elim (fun y => absurd y.symm z) id) e
section
variable {T : Tb} {X : Cx} {W : WX} {pos p : Pos} {e a b c : Expr} {K : PySem.W.Frag} {G : Gh} {ρ ρ' : En} {σ σ' : L2.St} {H H' : Hp}
/-- a slot is set to a value -/
theorem Rep.setSh (r : Rep T K G ρ σ H) {i : Nat} {v : V} {d : PyData} (h : Da K (hide G.O H) v d) : Rep T K G (ρ.set i (.sh d)) (σ.set i (some v)) H where
  len := by rw [List.length_set, List.length_set]; exact r.len
  slot j s hs := by
    by_cases e : i = j
    · subst e
      have hl : i < ρ.length := by
        by_cases z : i < ρ.length
        · exact z
        · rw [List.getElem?_eq_none (by rw [List.length_set]; omega)] at hs; cases hs
      rw [List.getElem?_set_self hl] at hs
      cases hs
      exact ⟨some v, List.getElem?_set_self (by rw [← r.len]; exact hl), v, rfl, h⟩
    · rw [List.getElem?_set_ne e] at hs ⊢
      exact r.slot j s hs
  sep j k s t a hjk hj hk hs ht e1 e2 := by
    have nj : ∀ {l : Nat} {u : Sl}, (ρ.set i (.sh d))[l]? = some u → u.owned = true → l ≠ i := fun {l u} hl hu z => by
      subst z
      by_cases hz : l < ρ.length
      · rw [List.getElem?_set_self hz] at hl; cases hl; cases hu
      · rw [List.getElem?_eq_none (by rw [List.length_set]; omega)] at hl; cases hl
    have n1 := nj hj hs
    have n2 := nj hk ht
    rw [List.getElem?_set_ne (Ne.symm n1)] at hj e1
    rw [List.getElem?_set_ne (Ne.symm n2)] at hk e2
    exact r.sep j k s t a hjk hj hk hs ht e1 e2
  tab := r.tab
  ext := r.ext
  dom := r.dom
  fly := r.fly
  dcs := r.dcs
def gNameD (i : Nat) : GD := fun d ρ Q => Q (ρ.set i (.sh d))
theorem dg_name (i : Nat) (p : PG X e (gName i)) : DG T X [i] e (gNameD i) := ⟨⟨fun pins s σ H v u Q I rv h => p.run pins s σ H v u Q I rv (by
    obtain ⟨G, ρ, d, r, a, q⟩ := h
    exact q _ (r.setSh a) fun vs hv => wipe_set (hv i (List.mem_singleton.mpr rfl)))⟩, fun d ρ Q Q' hq h => hq _ h,
  fun d ρ Q h => ⟨h, fun j hj => List.getElem?_set_ne (fun z => hj (by rw [z]; exact List.mem_singleton.mpr rfl)), fun j hj s hs => by
    rw [List.mem_singleton.mp hj] at hs
    by_cases hl : i < ρ.length
    · rw [List.getElem?_set_self hl] at hs; cases hs; rfl
    · rw [List.getElem?_eq_none (by rw [List.length_set]; omega)] at hs; cases hs⟩⟩
def gNilD : GDs := fun ds ρ Q => ds = [] ∧ Q ρ
def gConsD (g : GD) (gs : GDs) : GDs := fun ds ρ Q => match ds with
  | d :: r => g d ρ fun ρ' => gs r ρ' Q
  | [] => False
theorem dgs_nil : DGs T X [] [] gNilD := ⟨⟨fun pins s σ H v u Q I rv h => pgs_nil.run pins s σ H v u Q I rv (by
    obtain ⟨G, ρ, d, r, a, rfl, q⟩ := h
    cases a
    exact ⟨rfl, q σ r fun _ _ => rfl⟩)⟩, fun d ρ Q Q' hq h => ⟨h.1, hq _ h.2⟩, fun d ρ Q h => ⟨h.1, h.2, fun _ _ => rfl, fun i hi => by cases hi⟩⟩
theorem dgs_cons {es : List Expr} {sl sls : List Nat} {g : GD} {gs : GDs} (h1 : DG T X sl e g) (h2 : DGs T X sls es gs)
    (hs : (assignEach (e :: es) X.env).map (·.2) = assign e X.env :: (assignEach es X.env).map (·.2) := by rfl) : DGs T X (sl ++ sls) (e :: es) (gConsD g gs) :=
  ⟨⟨fun pins s σ H v u Q I rv h => (pgs_cons h1.pg h2.pg hs).run pins s σ H v u Q I rv (by
    obtain ⟨G, ρ, ds, r, a, q⟩ := h
    cases a with
    | nil => exact q.elim
    | cons a1 a2 =>
      refine ⟨_, _, rfl, G, ρ, _, r, a1, h1.mono _ _ _ _ (fun ρ' q' σ' r' w' => ?_) q⟩
      exact ⟨G, ρ', _, r', a2, h2.mono _ _ _ _ (fun ρ'' q'' σ'' r'' w'' => q'' σ'' r'' fun vs hv => (w'' vs fun i hi => hv i (List.mem_append_right _ hi)).trans (w' vs fun i hi => hv i (List.mem_append_left _ hi))) q'⟩)⟩,
   fun ds ρ Q Q' hq h => by
    cases ds with
    | nil => exact h
    | cons d r => exact h1.mono _ _ _ _ (fun ρ' q' => h2.mono _ _ _ _ hq q') h,
   fun ds ρ Q h => by
    cases ds with
    | nil => exact h.elim
    | cons d r =>
      refine h1.mono _ _ _ _ (fun ρ' q' => ?_) (h1.keep _ _ _ h)
      refine h2.mono _ _ _ _ (fun ρ'' q'' => ⟨q''.1, fun i hi => (q''.2.1 i fun z => hi (List.mem_append_right _ z)).trans (q'.2.1 i fun z => hi (List.mem_append_left _ z)), fun i hi s hs => ?_⟩) (h2.keep _ _ _ q'.1)
      by_cases z : i ∈ sls
      · exact q''.2.2 i z s hs
      · rw [q''.2.1 i z] at hs
        exact q'.2.2 i ((List.mem_append.mp hi).resolve_right z) s hs⟩
def gTupD (n : Nat) (gs : GDs) : GD := fun d ρ Q => match d with
  | .tuple ds => ds.length = n ∧ gs ds ρ Q
  | _ => False
theorem dg_tup {es : List Expr} {k n : Nat} {sl : List Nat} {gs : GDs} (hc : X.calm = true) (h : DGs T X sl es gs) (hn : (assignEach es X.env).length = n := by rfl) (hst : (assignEach es X.env).findIdx? (·.1) = none := by rfl) : DG T X sl (.Tuple es k pos) (gTupD n gs) :=
  ⟨⟨fun pins s σ H v u Q I rv q => (pg_tup hc h.pg hn hst).run pins s σ H v u Q I rv (by
    obtain ⟨G, ρ, d, r, a, q⟩ := q
    cases d with
    | tuple ds =>
      obtain ⟨t, xs, rfl, ht', ht, hx⟩ := (Top.sh (D0 := []) a).tup
      exact ⟨t, xs, rfl, ht, by rw [hx.length]; exact q.1, G, ρ, ds, r, hx, q.2⟩
    | _ => exact q.elim)⟩,
   fun d ρ Q Q' hq q => by cases d <;> first | exact ⟨q.1, h.mono _ _ _ _ hq q.2⟩ | exact q,
   fun d ρ Q q => by cases d <;> first | exact ⟨q.1, h.keep _ _ _ q.2⟩ | exact q.elim⟩

/-! ### what is walked -/
/-- J hands out ds while what stood in B stands -/
def WkJ (K : PySem.W.Frag) (B : Hp) (J : It) (ds : List PyData) : Prop := ∀ (O : List Addr) (H : Hp), ExtN B (hide O H) → (∀ a ∈ O, H a ≠ none) →
  (∀ (i : Nat) (d : PyData), ds[i]? = some d → J.go i H ∧ ∀ x H3, J.yld i H x H3 → (∀ b o, H b = some o → H3 b = some o) ∧ Da K (hide O H3) x d) ∧ ∀ i : Nat, ds.length ≤ i → J.stop i H
def liftI (T : Tb) (K : PySem.W.Frag) (W : WX) (w : PWs) : TI := fun σ H R => ∃ G ρ, Rep T K G ρ σ H ∧ w ρ (fun ds => ∀ J H', Rep T K G ρ σ H' → WkJ K (hide G.O H') J ds → R J H') (exOut T K W G ρ σ)
structure DI (T : Tb) (X : Cx) (W : WX) (tg iter : Expr) (w : PWs) : Prop where
  pi : PI X tg iter (liftI T X.K W w)
  mono : Mono w
theorem pi_mono {tg iter : Expr} {t t' : TI} (h : PI X tg iter t) (i : ∀ σ H Q, t' σ H Q → t σ H Q) : PI X tg iter t' := ⟨fun pins s σ H Q I q => h.run pins s σ H Q I (i _ _ _ q)⟩
theorem wk_list {a : Addr} {vs : List V} {ds : List PyData} {B : Hp} (h : B a = some (.lst vs)) (hx : DaAll K B vs ds) : WkJ K B (Itl K a) ds := fun O H e dm => by
  have ha : hide O H a = some (.lst vs) := e _ _ h fun ps z => by cases z
  have ha2 := (hide_some ha).2
  refine ⟨fun i d hd => ?_, fun i hi => ⟨vs, SqL.of ha2, by rw [hx.length]; exact hi⟩⟩
  obtain ⟨v, h1, h2⟩ := hx.getD hd
  exact ⟨⟨vs, v, SqL.of ha2, h1⟩, fun x H3 hy => by
    obtain ⟨rfl, q⟩ := hy
    have := q vs (SqL.of ha2)
    rw [h1] at this
    cases this
    exact ⟨fun _ _ e => e, h2.ext e⟩⟩
theorem wk_tup {a : Addr} {vs : List V} {ds : List PyData} {B : Hp} (h : SqT K B a vs) (hx : DaAll K B vs ds) : WkJ K B (Itt K a) ds := fun O H e dm => by
  have ha2 : SqT K H a vs := sqT_whole (sqT_ext e h)
  refine ⟨fun i d hd => ?_, fun i hi => ⟨vs, ha2, by rw [hx.length]; exact hi⟩⟩
  obtain ⟨v, h1, h2⟩ := hx.getD hd
  exact ⟨⟨vs, v, ha2, h1⟩, fun x H3 hy => by
    obtain ⟨rfl, q⟩ := hy
    have := q vs ha2
    rw [h1] at this
    cases this
    exact ⟨fun _ _ e => e, h2.ext e⟩⟩
def rangeD (lo : Int) (n : Nat) : List PyData := (List.range n).map fun i => .int (lo + (i : Nat))
theorem wk_range {lo : Int} {n : Nat} {B : Hp} : WkJ K B (Itr lo n) (rangeD lo n) := fun O H e dm => by
  have hl : (rangeD lo n).length = n := by unfold rangeD; simp
  refine ⟨fun i d hd => ?_, fun i hi => by rw [hl] at hi; exact hi⟩
  have hi : i < n := by
    have := (List.getElem?_eq_some_iff.mp hd).1
    rw [hl] at this; exact this
  have ed : d = .int (lo + (i : Nat)) := by
    unfold rangeD at hd
    rw [List.getElem?_map, List.getElem?_range hi] at hd
    exact (Option.some.inj hd).symm
  subst ed
  exact ⟨hi, fun x H3 hy => by
    obtain ⟨rfl, rfl⟩ := hy
    exact ⟨fun _ _ e => e, .int _⟩⟩
def wItL (w : PW) : PWs := fun ρ Q E => w ρ (fun d => match d with | .list ds => Q ds | _ => False) E
def wItT (w : PW) : PWs := fun ρ Q E => w ρ (fun d => match d with | .tuple ds => Q ds | _ => False) E
theorem di_list {tg : Expr} {w : PW} (h : DE T X W e w) : DI T X W tg e (wItL w) := ⟨pi_mono (pi_list h.pe) fun σ H R q => by
    obtain ⟨G, ρ, r, q⟩ := q
    refine ⟨G, ρ, r, h.mono _ _ _ _ _ (fun d hd v H' r' a => ?_) (fun _ z => z) q⟩
    cases a with
    | lst h1 h2 => exact ⟨_, rfl, ⟨_, SqL.of (hide_some h1).2⟩, hd _ H' r' (wk_list h1 h2)⟩
    | _ => exact hd.elim, fun ρ Q Q' E E' hq he q => h.mono _ _ _ _ _ (fun d hd => by cases d <;> first | exact hq _ hd | exact hd) he q⟩
theorem di_tup {tg : Expr} {w : PW} (h : DE T X W e w) : DI T X W tg e (wItT w) := ⟨pi_mono (pi_tup h.pe) fun σ H R q => by
    obtain ⟨G, ρ, r, q⟩ := q
    refine ⟨G, ρ, r, h.mono _ _ _ _ _ (fun d hd v H' r' a => ?_) (fun _ z => z) q⟩
    cases a with
    | tup h1 h2 => exact ⟨_, rfl, ⟨_, SqT.of (hide_some h1).2⟩, hd _ H' r' (wk_tup (SqT.of h1) h2)⟩
    | ftup h1 _ _ h2 => exact ⟨_, rfl, ⟨_, .inl (.inr ⟨_, (hide_some h1).2⟩)⟩, hd _ H' r' (wk_tup (.inl (.inr ⟨_, h1⟩)) h2)⟩
    | _ => exact hd.elim, fun ρ Q Q' E E' hq he q => h.mono _ _ _ _ _ (fun d hd => by cases d <;> first | exact hq _ hd | exact hd) he q⟩
def wRng1 (ws : PWs) : PWs := fun ρ Q E => ws ρ (fun ds => match ds with | [.int j] => (-(2 ^ 62) ≤ j ∧ j < 2 ^ 62) ∧ Q (rangeD 0 j.toNat) | _ => False) E
def wRng2 (ws : PWs) : PWs := fun ρ Q E => ws ρ (fun ds => match ds with | [.int i, .int j] => (-(2 ^ 62) ≤ i ∧ i < 2 ^ 62 ∧ -(2 ^ 62) ≤ j ∧ j < 2 ^ 62) ∧ Q (rangeD i (j - i).toNat) | _ => False) E
theorem di_range1 {tg : Expr} {ws : PWs} (hg : Gl X "range") (hm : X.mg "range" = none) (h : DA T X W [a] ws) (hs : starEach [a] X.env = [(false, eval a X.env)] := by rfl) : DI T X W tg (.Call (.Name "range" p) [a] [] pos) (wRng1 ws) :=
  ⟨pi_mono (pi_range1 hg hm h.pa hs) fun σ H R q => by
    obtain ⟨G, ρ, r, q⟩ := q
    refine ⟨G, ρ, r, h.mono _ _ _ _ _ (fun ds hd vs H' r' a => ?_) (fun _ z => z) q⟩
    split at hd
    · cases a with
      | cons h1 a =>
        cases a
        cases h1
        exact ⟨_, rfl, hd.1.1, hd.1.2, hd.2 _ H' r' wk_range⟩
    · exact hd.elim, fun ρ Q Q' E E' hq he q => h.mono _ _ _ _ _ (fun ds hd => by
      split at hd
      · exact ⟨hd.1, hq _ hd.2⟩
      · exact hd.elim) he q⟩
theorem di_range2 {tg : Expr} {ws : PWs} (hg : Gl X "range") (hm : X.mg "range" = none) (h : DA T X W [a, b] ws) (hs : starEach [a, b] X.env = [(false, eval a X.env), (false, eval b X.env)] := by rfl) (hs2 : starEach [b] X.env = [(false, eval b X.env)] := by rfl) :
    DI T X W tg (.Call (.Name "range" p) [a, b] [] pos) (wRng2 ws) :=
  ⟨pi_mono (pi_range2 hg hm h.pa hs hs2) fun σ H R q => by
    obtain ⟨G, ρ, r, q⟩ := q
    refine ⟨G, ρ, r, h.mono _ _ _ _ _ (fun ds hd vs H' r' a => ?_) (fun _ z => z) q⟩
    split at hd
    · cases a with
      | cons h1 a => cases a with
        | cons h2 a =>
          cases a
          cases h1
          cases h2
          exact ⟨_, _, rfl, hd.1, hd.2 _ H' r' wk_range⟩
    · exact hd.elim, fun ρ Q Q' E E' hq he q => h.mono _ _ _ _ _ (fun ds hd => by
      split at hd
      · exact ⟨hd.1, hq _ hd.2⟩
      · exact hd.elim) he q⟩
end
end PL
set_option Elab.async false
set_option linter.all false
set_option maxRecDepth 100000
set_option maxHeartbeats 2000000
namespace PL
open PySem PySem.Spec PyProof.Rows L2
open LamX (ExtN Tabs TabS)
/-! ### a block's slots -/
def NoOwn (vs : List Nat) (ρ : En) : Prop := ∀ i ∈ vs, ∀ s, ρ[i]? = some s → s.owned = false
section
variable {T : Tb} {X : Cx} {W : WX} {pos p : Pos} {e a b c : Expr} {K : PySem.W.Frag} {G G2 : Gh} {ρ ρ2 : En} {σ σ2 : L2.St} {H H' : Hp}
theorem Rep.wipe (r : Rep T K G ρ σ H) (vs : List Nat) : Rep T K G (wipeE ρ vs) (L2.wipe σ vs) H where
  len := by rw [wipeE_length, wipe_length]; exact r.len
  slot i s hs := by
    by_cases hi : i ∈ vs
    · have e := wipeE_in hi hs
      subst e
      have hl : i < (wipeE ρ vs).length := (List.getElem?_eq_some_iff.mp hs).1
      rw [wipeE_length, r.len] at hl
      exact ⟨none, wipe_in hl hi, trivial⟩
    · rw [wipeE_get hi] at hs
      rw [wipe_get hi]
      exact r.slot i s hs
  sep i j s t a hij hi hj hs ht e1 e2 := by
    have ni : i ∉ vs := fun z => by rw [wipeE_in z hi] at hs; cases hs
    have nj : j ∉ vs := fun z => by rw [wipeE_in z hj] at ht; cases ht
    rw [wipeE_get ni] at hi
    rw [wipeE_get nj] at hj
    rw [wipe_get ni] at e1
    rw [wipe_get nj] at e2
    exact r.sep i j s t a hij hi hj hs ht e1 e2
  tab := r.tab
  ext := r.ext
  dom := r.dom
  fly := r.fly
  dcs := r.dcs
/-- back from a block -/
theorem Rep.unwipe {vs : List Nat} (r : Rep T K G ρ σ H) (r2 : Rep T K ⟨hide G.O H, G.O, G.fl⟩ ρ2 σ2 H') (no : NoOwn vs ρ) (off : Off vs ρ ρ2) (hw : L2.wipe σ2 vs = L2.wipe σ vs) : Rep T K G ρ σ H' where
  len := r.len
  slot i s hs := by
    have e : ExtN (hide G.O H) (hide G.O H') := r2.ext
    by_cases hi : i ∈ vs
    · have ho := no i hi s hs
      obtain ⟨v, h1, h2⟩ := r.slot i s hs
      refine ⟨v, h1, ?_⟩
      cases s with
      | un => trivial
      | sh d => obtain ⟨x, h3, h4⟩ := h2; exact ⟨x, h3, h4.ext e⟩
      | dice => exact h2
      | scr ns => obtain ⟨b, h3, h4⟩ := h2; exact ⟨b, h3, sqL_ext e h4⟩
      | _ => cases ho
    · rw [← off i hi] at hs
      have := r2.slot i s hs
      rw [← wipe_get (σ := σ2) hi, hw, wipe_get hi] at this
      exact this
  sep := r.sep
  tab := r2.tab
  ext := r.ext.trans r2.ext
  dom := r2.dom
  fly := r2.fly
  dcs := r2.dcs
theorem Rep.unbase' {Hb : Hp} {O : List Addr} {fl : List (Addr × HO)} (r : Rep T K ⟨Hb, O, fl⟩ ρ σ H) (Hb' : Hp) (e : ExtN Hb' Hb) : Rep T K ⟨Hb', O, fl⟩ ρ σ H := ⟨r.len, r.slot, r.sep, r.tab, e.trans r.ext, r.dom, r.fly, r.dcs⟩
def Cont (o : HO) : Prop := (∃ xs, o = .lst xs) ∨ (∃ xs, o = .dK xs) ∨ ∃ xs, o = .dT xs
theorem TOk.upd {D : Addr} {o o' : HO} (t : TOk T H) (hD : H D = some o) (c : Cont o) : TOk T (upd H D o') := by
  have ne : ∀ {b : Addr} {u : HO}, H b = some u → (∀ q, Cont q → u ≠ q) → b ≠ D := fun {b u} h hu z => by
    rw [z, hD] at h
    cases h
    exact hu o c rfl
  have nt : ∀ ps q, Cont q → HO.tbl ps ≠ q := fun ps q hc z => by
    rcases hc with ⟨x, e⟩ | ⟨x, e⟩ | ⟨x, e⟩ <;> rw [e] at z <;> cases z
  have nc : ∀ c' s q, Cont q → LamX.CodeO c' s ≠ q := fun c' s q hc z => by
    unfold LamX.CodeO at z
    rcases hc with ⟨x, e⟩ | ⟨x, e⟩ | ⟨x, e⟩ <;> rw [e] at z <;> cases z
  refine ⟨fun P hP => ?_, fun p hp => ?_⟩
  · obtain ⟨ps, h1, h2⟩ := t.g P hP
    exact ⟨ps, by rw [upd_ne (ne h1 (nt ps))]; exact h1, h2⟩
  · obtain ⟨ps, h1, h2, h3⟩ := t.l p hp
    refine ⟨ps, by rw [upd_ne (ne h1 (nt ps))]; exact h1, h2, fun pos cv hcv => ?_⟩
    obtain ⟨c', e, h4⟩ := h3 pos cv hcv
    exact ⟨c', e, by rw [upd_ne (ne h4 (nc _ _))]; exact h4⟩
/-- an object of ours, in no slot, is written -/
theorem Rep.put {Hb : Hp} {O : List Addr} {fl : List (Addr × HO)} {D : Addr} {o o' : HO} (r : Rep T K ⟨Hb, O, (D, o) :: fl⟩ ρ σ H) (ap : Apt ρ σ D) (hn : ∀ q ∈ fl, q.1 ≠ D) (co : Cont o) (co' : Cont o') :
    Rep T K ⟨Hb, O, (D, o') :: fl⟩ ρ σ (upd H D o') ∧ hide O (upd H D o') = hide O H := by
  obtain ⟨hO, hD⟩ := r.fly _ List.mem_cons_self
  have eh : hide O (upd H D o') = hide O H := hide_upd hO
  have notD : ∀ (j : Nat) (s : Sl) (b : Addr), ρ[j]? = some s → s.owned = true → σ[j]? = some (some (.ref b)) → b ≠ D := fun j s b hj hs e z => by
    rw [z] at e
    exact ap j s hj hs e
  refine ⟨⟨r.len, fun j s hj => ?_, r.sep, r.tab.upd hD co, by rw [eh]; exact r.ext, fun b hb => ?_, fun q hq => ?_, fun b hb => ?_⟩, eh⟩
  · obtain ⟨u, h1, h2⟩ := r.slot j s hj
    refine ⟨u, h1, ?_⟩
    cases s with
    | un => trivial
    | sh d => obtain ⟨x, h3, h4⟩ := h2; exact ⟨x, h3, by rw [eh]; exact h4⟩
    | ol ds => obtain ⟨b, us, h3, h4, h5, h6⟩ := h2; subst h3; exact ⟨b, us, rfl, h4, by rw [upd_ne (notD j _ b hj rfl h1)]; exact h5, by rw [eh]; exact h6⟩
    | ok ds => obtain ⟨b, us, h3, h4, h5, h6, h7⟩ := h2; subst h3; exact ⟨b, us, rfl, h4, by rw [upd_ne (notD j _ b hj rfl h1)]; exact h5, h6, by rw [eh]; exact h7⟩
    | ot ds => obtain ⟨b, us, h3, h4, h5, h6, h7⟩ := h2; subst h3; exact ⟨b, us, rfl, h4, by rw [upd_ne (notD j _ b hj rfl h1)]; exact h5, h6, by rw [eh]; exact h7⟩
    | dice => exact h2
    | scr ns => obtain ⟨b, h3, h4⟩ := h2; exact ⟨b, h3, by rw [eh]; exact h4⟩
  · by_cases z : b = D
    · rw [z, upd_same]
      refine ⟨_, rfl, fun ps e => ?_⟩
      rcases co' with ⟨x, h⟩ | ⟨x, h⟩ | ⟨x, h⟩ <;> rw [h] at e <;> cases e
    · rw [upd_ne z]; exact r.dom b hb
  · rcases List.mem_cons.mp hq with z | z
    · rw [z]; exact ⟨hO, upd_same⟩
    · rw [upd_ne (hn q z)]; exact r.fly q (List.mem_cons_of_mem _ z)
  · obtain ⟨h1, h2, h3⟩ := r.dcs b hb
    have nb : b ≠ D := fun z => h3 _ List.mem_cons_self z.symm
    refine ⟨h1, by rw [upd_ne nb]; exact h2, fun q hq => ?_⟩
    rcases List.mem_cons.mp hq with z | z
    · rw [z]; exact fun z => nb z.symm
    · exact h3 q (List.mem_cons_of_mem _ z)
theorem wipe_wipe (σ : L2.St) (vs : List Nat) : L2.wipe (L2.wipe σ vs) vs = L2.wipe σ vs := by
  apply List.ext_getElem?
  intro i
  by_cases hi : i ∈ vs
  · by_cases hl : i < σ.length
    · rw [wipe_in (by rw [wipe_length]; exact hl) hi, wipe_in hl hi]
    · rw [List.getElem?_eq_none (by rw [wipe_length, wipe_length]; omega), List.getElem?_eq_none (by rw [wipe_length]; omega)]
  · rw [wipe_get hi]
structure DTs (T : Tb) (X : Cx) (W : WX) (ifs : List Expr) (w : PWB) : Prop where
  pt : PTs X ifs (liftB T X.K W w)
  mono : Mono w
def wYes : PWB := fun _ Q _ => Q true
theorem pts_mono {X : Cx} {e : List Expr} {t t' : TT} (h : PTs X e t) (i : ∀ σ H Q, t' σ H Q → t σ H Q) : PTs X e t' := ⟨fun pins s σ H Q I q => h.run pins s σ H Q I (i _ _ _ q)⟩
theorem dts_nil : DTs T X W [] wYes := ⟨pts_mono pts_nil fun σ H Q q => by
  obtain ⟨G, ρ, r, q⟩ := q
  exact q H r, fun _ _ _ _ _ hq _ h => hq _ h⟩
theorem dts_one {w : PWB} (h : DT T X W e w) : DTs T X W [e] w := ⟨pts_one h.pt, h.mono⟩

/-! ### list comprehensions -/
def goLc (g : GD) (wt : PWB) (we : PW) (ρw : En) : List PyData → List PyData → (List PyData → Prop) → Prop
  | [], acc, Q => Q acc
  | d :: ds, acc, Q => g d ρw fun ρ2 => wt ρ2 (fun k => if k = true then we ρ2 (fun y => acc.length < sizeLine ∧ goLc g wt we ρw ds (acc ++ [y]) Q) (fun _ => False) else goLc g wt we ρw ds acc Q) (fun _ => False)
def wLc (wi : PWs) (g : GD) (wt : PWB) (we : PW) (vs : List Nat) : PW := fun ρ Q E => NoOwn vs ρ ∧ wi ρ (fun ds => goLc g wt we (wipeE ρ vs) ds [] fun acc => Q (.list acc)) E
theorem goLc_mono {g : GD} {wt : PWB} {we : PW} {ρw : En} (mg : ∀ d ρ Q Q', (∀ r, Q r → Q' r) → g d ρ Q → g d ρ Q') (mt : Mono wt) (me : Mono we) {Q Q' : List PyData → Prop} (hq : ∀ d, Q d → Q' d) : ∀ (ds acc : List PyData), goLc g wt we ρw ds acc Q → goLc g wt we ρw ds acc Q'
  | [], acc, h => hq _ h
  | d :: ds, acc, h => mg _ _ _ _ (fun ρ2 h2 => mt _ _ _ _ _ (fun k hk => by
      cases k with
      | true => exact me _ _ _ _ _ (fun y hy => ⟨hy.1, goLc_mono mg mt me hq ds _ hy.2⟩) (fun _ z => z) hk
      | false => exact goLc_mono mg mt me hq ds _ hk) (fun _ z => z) h2) h
theorem mono_Lc {wi : PWs} {g : GD} {wt : PWB} {we : PW} {vs : List Nat} (mi : Mono wi) (mg : ∀ d ρ Q Q', (∀ r, Q r → Q' r) → g d ρ Q → g d ρ Q') (mt : Mono wt) (me : Mono we) : Mono (wLc wi g wt we vs) := fun ρ Q Q' E E' hq he h =>
  ⟨h.1, mi _ _ _ _ _ (fun ds hd => goLc_mono mg mt me (fun acc ha => hq _ ha) ds [] hd) he h.2⟩
theorem lc_imp {own : List (Str × Nat)} {wi : PWs} {g : GD} {wt : PWB} {we : PW} {sl : List Nat} {Q : VK} (mi : Mono wi) (mg : ∀ d ρ Q Q', (∀ r, Q r → Q' r) → g d ρ Q → g d ρ Q') (kg : ∀ d ρ Q, g d ρ Q → g d ρ fun ρ' => Q ρ' ∧ Off sl ρ ρ' ∧ Shd sl ρ') (mt : Mono wt) (me : Mono we) (hsl : ∀ i ∈ sl, i ∈ own.map (·.2))
    (q : liftF T X.K W (wLc wi g wt we (own.map (·.2))) σ H Q) : tLc (liftI T X.K W wi) (liftG T X.K sl g) (liftB T X.K W0 wt) (lift T X.K W0 we) (own.map (·.2)) σ H Q := by
  generalize hvs : own.map (·.2) = vs at hsl q ⊢
  obtain ⟨G, ρ, r, no, q⟩ := q
  refine ⟨G, ρ, r, mi _ _ _ _ _ (fun ds hgo J H1 r1 wk D hD => ?_) (fun _ z => z) q⟩
  have nD : D ∉ G.O := fun z => by obtain ⟨o, e, _⟩ := r1.dom D z; rw [hD] at e; cases e
  refine ⟨fun i m H2 => ∃ (vsa : List V) (acc : List PyData), m = ds.length - i ∧ Rep T X.K ⟨hide G.O H1, D :: G.O, (D, .lst vsa) :: G.fl⟩ ρ σ H2 ∧ Apt ρ σ D ∧ DaAll X.K (hide (D :: G.O) H2) vsa acc ∧
    goLc g wt we (wipeE ρ vs) (ds.drop i) acc (fun acc => ∀ (a : Addr) (vs : List V) (ds : List PyData) (H' : Hp), PyData.list acc = .list ds → Rep T X.K ⟨G.Hb, a :: G.O, G.fl⟩ ρ σ H' → a ∉ G.O → Apt ρ σ a → H' a = some (.lst vs) → DaAll X.K (hide (a :: G.O) H') vs ds → Q (.ref a) H'), ?_, fun i m H2 hW => ?_⟩
  · obtain ⟨r2, na, ap, h1, h2⟩ := r1.newL (vs := []) (ds := []) hD .nil
    exact ⟨_, [], [], rfl, ⟨r2.len, r2.slot, r2.sep, r2.tab, r2.ext |> fun _ => (by rw [show hide (D :: G.O) (upd H1 D (.lst [])) = hide G.O H1 from hide_new hD]; exact ExtN.refl _), r2.dom, fun p hp => by
      rcases List.mem_cons.mp hp with e | hp
      · rw [e]; exact ⟨List.mem_cons_self, h1⟩
      · exact r2.fly p hp, fun b hb => ⟨(r2.dcs b hb).1, (r2.dcs b hb).2.1, fun q hq => by
      rcases List.mem_cons.mp hq with e | hq
      · rw [e]; exact fun z => nD (by rw [show D = b from z]; exact (r1.dcs b hb).1)
      · exact (r2.dcs b hb).2.2 q hq⟩⟩, ap, .nil, by rw [List.drop_zero]; exact hgo⟩
  · obtain ⟨vsa, acc, rfl, r2, ap, ha, hgo⟩ := hW
    have hDv : H2 D = some (.lst vsa) := (r2.fly _ List.mem_cons_self).2
    have r2l := r2.land.1
    have dm : ∀ a ∈ D :: G.O, H2 a ≠ none := fun a ha z => by obtain ⟨o, e, _⟩ := r2.dom a ha; rw [z] at e; cases e
    obtain ⟨wk1, wk2⟩ := wk (D :: G.O) H2 r2.ext dm
    cases hd : ds.drop i with
    | nil =>
      refine .inl ⟨wk2 i (List.drop_eq_nil_iff.mp hd), ?_⟩
      rw [hd] at hgo
      exact hgo D vsa acc H2 rfl (r2l.unbase' _ r1.ext) nD ap hDv ha
    | cons d rest =>
      have hi' : i < ds.length := by
        by_cases z : i < ds.length
        · exact z
        · rw [List.drop_eq_nil_of_le (by omega)] at hd; cases hd
      have hdi : ds[i]? = some d := by
        have := List.drop_eq_getElem_cons hi'
        rw [hd] at this
        rw [List.getElem?_eq_getElem hi', ← (List.cons.inj this).1]
      have hrest : ds.drop (i + 1) = rest := by
        have := List.drop_eq_getElem_cons hi'
        rw [hd] at this
        exact (List.cons.inj this).2.symm
      obtain ⟨jgo, yld⟩ := wk1 i d hdi
      rw [hd] at hgo
      refine .inr ⟨jgo, fun H' => ∃ (vsa : List V) (acc : List PyData), Rep T X.K ⟨hide G.O H1, D :: G.O, (D, .lst vsa) :: G.fl⟩ ρ σ H' ∧ Apt ρ σ D ∧ DaAll X.K (hide (D :: G.O) H') vsa acc ∧
        goLc g wt we (wipeE ρ vs) rest acc (fun acc => ∀ (a : Addr) (vs : List V) (ds : List PyData) (H' : Hp), PyData.list acc = .list ds → Rep T X.K ⟨G.Hb, a :: G.O, G.fl⟩ ρ σ H' → a ∉ G.O → Apt ρ σ a → H' a = some (.lst vs) → DaAll X.K (hide (a :: G.O) H') vs ds → Q (.ref a) H'), fun H' hN' => ?_, fun x H3 hy => ?_⟩
      · obtain ⟨vsa, acc, h1, h2, h3, h4⟩ := hN'
        exact ⟨ds.length - (i + 1), by omega, vsa, acc, rfl, h1, h2, h3, by rw [hrest]; exact h4⟩
      · obtain ⟨al, hx⟩ := yld x H3 hy
        have r3 := r2.alloc al
        have e3 : ExtN (hide (D :: G.O) H2) (hide (D :: G.O) H3) := ext_hide fun b o _ h _ => al b o h
        have ha3 := ha.ext e3
        have r3b := r3.rebase
        -- the target
        have hgk := kg _ _ _ hgo
        refine ⟨_, _, d, (r3b.wipe vs), hx, mg _ _ _ _ (fun ρ2 h2 σ2 r4 w4 => ⟨?_, ?_⟩) hgk⟩
        · have := w4 vs hsl
          rw [this, wipe_wipe]
        · obtain ⟨h2, off, _⟩ := h2
          have hw4 : L2.wipe σ2 vs = L2.wipe σ vs := by rw [w4 vs hsl, wipe_wipe]
          have offv : Off vs ρ ρ2 := fun j hj => by
            rw [off j (fun z => hj (hsl j z)), wipeE_get hj]
          refine liftB_intro mt r4 (mt _ _ _ _ _ (fun k hk H5 r5 e5 => ?_) (fun _ z => z.elim) h2)
          have back : ∀ {H6 : Hp}, Rep T X.K ⟨hide (D :: G.O) H3, D :: G.O, (D, .lst vsa) :: G.fl⟩ ρ2 σ2 H6 → Rep T X.K ⟨hide G.O H1, D :: G.O, (D, .lst vsa) :: G.fl⟩ ρ σ H6 := fun {H6} r6 => r3.unwipe r6 no offv hw4
          cases k with
          | false => exact ⟨vsa, acc, back r5, ap, ha3.ext r5.ext, hk⟩
          | true =>
            have hk : we ρ2 (fun y => acc.length < sizeLine ∧ goLc g wt we (wipeE ρ vs) rest (acc ++ [y]) _) (fun _ => False) := hk
            refine lift_intro me r5 (me _ _ _ _ _ (fun y hy v H6 r6 e6 a6 => ?_) (fun _ z => z.elim) hk)
            have r7 := back r6
            refine ⟨vsa, (r6.fly _ List.mem_cons_self).2, by rw [ha3.length]; exact hy.1, vsa ++ [v], acc ++ [y], ?_, ap, ?_, hy.2⟩
            · exact (r7.put ap (fun q hq z => nD (by rw [← z]; exact (r1.fly q hq).1)) (.inl ⟨_, rfl⟩) (.inl ⟨_, rfl⟩)).1
            · rw [show hide (D :: G.O) (upd H6 D (.lst (vsa ++ [v]))) = hide (D :: G.O) H6 from hide_upd List.mem_cons_self]
              exact (ha3.ext r6.ext).append (.cons a6 .nil)
theorem df_lc {elt tg iter : Expr} {ifs : List Expr} {scope : Scope} {own : List (Str × Nat)} {wi : PWs} {g : GD} {wt : PWB} {we : PW} {sl : List Nat} (hc : X.calm = true) (hN : X.N.Nodup) (hi : DI T X W tg iter wi) (ok : BlkOk X.N X.env.scope scope own) (hsl : ∀ i ∈ sl, i ∈ own.map (·.2))
    (hg : ∀ (s : Shared) (H : Hp) (C : Addr) (cl : List (Str × Addr)) (fp : List Addr), DG T (X.blk s H scope (compEnvC scope cl C X.env) fp) sl tg g) (ht : ∀ (s : Shared) (H : Hp) (C : Addr) (cl : List (Str × Addr)) (fp : List Addr), DTs T (X.blk s H scope (compEnvC scope cl C X.env) fp) W0 ifs wt)
    (he : ∀ (s : Shared) (H : Hp) (C : Addr) (cl : List (Str × Addr)) (fp : List Addr), DE T (X.blk s H scope (compEnvC scope cl C X.env) fp) W0 elt we) (hs : ∀ x, foldedSetIterable iter X.env x = pure x := by intro _; rfl) :
    DF T X W (.ListComp elt [⟨tg, iter, ifs, 0⟩] scope pos) (wLc wi g wt we (own.map (·.2))) := by
  have hg0 := hg X.s_0 X.H_0 0 [] []
  have ht0 := ht X.s_0 X.H_0 0 [] []
  have he0 := he X.s_0 X.H_0 0 [] []
  refine ⟨pe_mono (pe_lc (wi := liftI T X.K W wi) (g := liftG T X.K sl g) (tt := liftB T X.K W0 wt) (te := lift T X.K W0 we) hc hN hi.pi ok (fun s H C cl fp => (hg s H C cl fp).pg) (fun s H C cl fp => (ht s H C cl fp).pt) (fun s H C cl fp => (he s H C cl fp).pe) hs) fun σ H Q q => lc_imp hi.mono hg0.mono hg0.keep ht0.mono he0.mono hsl q, mono_Lc hi.mono hg0.mono ht0.mono he0.mono⟩
end
end PL
set_option Elab.async false
set_option linter.all false
set_option maxRecDepth 100000
set_option maxHeartbeats 2000000
namespace PL
open PySem PySem.Spec PyProof.Rows L2
open LamX (ExtN Tabs TabS)
def All2 {α β : Type} (R : α → β → Prop) : List α → List β → Prop
  | [], [] => True
  | a :: as, b :: bs => R a b ∧ All2 R as bs
  | _, _ => False
theorem All2.length {α β : Type} {R : α → β → Prop} : ∀ {as : List α} {bs : List β}, All2 R as bs → as.length = bs.length
  | [], [], _ => rfl
  | _ :: _, _ :: _, h => congrArg (· + 1) (All2.length h.2)
  | [], _ :: _, h => h.elim
  | _ :: _, [], h => h.elim
theorem All2.get {α β : Type} {R : α → β → Prop} : ∀ {as : List α} {bs : List β} {i : Nat} {a : α}, All2 R as bs → as[i]? = some a → ∃ b, bs[i]? = some b ∧ R a b
  | [], _, _, _, _, h => by simp at h
  | _ :: _, [], _, _, h, _ => h.elim
  | x :: as, y :: bs, 0, a, h, e => by
    simp at e
    subst e
    exact ⟨y, rfl, h.1⟩
  | x :: as, y :: bs, i + 1, a, h, e => by
    obtain ⟨b, h1, h2⟩ := All2.get (i := i) h.2 (by simpa using e)
    exact ⟨b, by simpa using h1, h2⟩
theorem All2.map {α β γ : Type} {R : β → γ → Prop} {f : α → β} {g : α → γ} : ∀ {xs : List α}, (∀ x ∈ xs, R (f x) (g x)) → All2 R (xs.map f) (xs.map g)
  | [], _ => trivial
  | x :: xs, h => ⟨h x List.mem_cons_self, All2.map fun y hy => h y (List.mem_cons_of_mem _ hy)⟩
theorem pass_map {α : Type} (d : α) : ∀ bs : List (Option α), (passing (fun i => (bs[i]?.join).isSome) bs.length 0).map (fun i => (bs[i]?.join).getD d) = bs.filterMap id := by
  intro bs
  unfold passing
  rw [List.drop_zero]
  induction bs with
  | nil => rfl
  | cons b r ih =>
    rw [List.length_cons, List.range_succ_eq_map, List.filter_cons, List.filterMap_cons, List.filter_map]
    have e : ((fun i => ((b :: r)[i]?.join).isSome) ∘ Nat.succ) = fun i => (r[i]?.join).isSome := by
      funext i
      simp
    rw [e]
    have e2 : List.map (fun i => ((b :: r)[i]?.join).getD d) (List.map Nat.succ (List.filter (fun i => (r[i]?.join).isSome) (List.range r.length))) = r.filterMap id := by
      rw [List.map_map, ← ih]
      apply List.map_congr_left
      intro i _
      simp
    cases b with
    | none => simpa using e2
    | some x =>
      simp only [List.getElem?_cons_zero, Option.join_some, Option.isSome_some, if_true, List.map_cons, Option.getD_some, id]
      rw [e2]

/-- the elements: each item's test and value -/
def wGen {α : Type} (toD : α → PyData) (wi : PWs) (g : GD) (wt : PWB) (we : PW) (vs : List Nat) (R : List α → PyData) : PW := fun ρ Q E => NoOwn vs ρ ∧ wi ρ (fun ds => ∃ bs : List (Option α),
  All2 (fun d ob => g d (wipeE ρ vs) fun ρ2 => wt ρ2 (fun k => match ob with | some y => k = true ∧ we ρ2 (fun z => z = toD y) (fun _ => False) | none => k = false) (fun _ => False)) ds bs ∧ Q (R (bs.filterMap id))) E
def rAnyD (l : List Bool) : PyData := .bool (l.any id)
def rAllD (l : List Bool) : PyData := .bool (l.all id)
def rSumD (l : List Int) : PyData := .int l.sum
theorem mono_Gen {α : Type} {toD : α → PyData} {wi : PWs} {g : GD} {wt : PWB} {we : PW} {vs : List Nat} {R : List α → PyData} (mi : Mono wi) : Mono (wGen toD wi g wt we vs R) := fun ρ Q Q' E E' hq he h =>
  ⟨h.1, mi _ _ _ _ _ (fun ds ⟨bs, h1, h2⟩ => ⟨bs, h1, hq _ h2⟩) he h.2⟩
section
variable {T : Tb} {X : Cx} {W : WX} {pos p gpos : Pos} {e a b c : Expr} {K : PySem.W.Frag} {G G2 : Gh} {ρ ρ2 : En} {σ σ2 : L2.St} {H H' : Hp}
theorem Rep.tabbed {P : Addr} (r : Rep T K G ρ σ H) (tb : GxR.Tabbed P H H') (hP : GxR.TabG H P) (hl : ∀ q ∈ T.tl, q.1 ≠ P) : Rep T K G ρ σ H' := by
  obtain ⟨ps, hPs, _⟩ := hP
  have ne : ∀ {b : Addr} {o : HO}, H b = some o → (∀ ps, o ≠ .tbl ps) → b ≠ P := fun {b o} h hn z => by
    rw [z, hPs] at h
    cases h
    exact hn _ rfl
  refine r.step (ext_hide fun b o _ h hn => by rw [tb.2 b (ne h hn)]; exact h) (fun a ha => by obtain ⟨o, h, hn⟩ := r.dom a ha; exact tb.2 a (ne h hn)) ⟨fun P' hP' => ?_, fun q hq => ?_⟩
  · by_cases z : P' = P
    · rw [z]; exact tb.1
    · obtain ⟨ps', h1, h2⟩ := r.tab.g P' hP'
      exact ⟨ps', by rw [tb.2 P' z]; exact h1, h2⟩
  · obtain ⟨ps', h1, h2, h3⟩ := r.tab.l q hq
    refine ⟨ps', by rw [tb.2 _ (hl q hq)]; exact h1, h2, fun pos cv hcv => ?_⟩
    obtain ⟨c', e, h4⟩ := h3 pos cv hcv
    exact ⟨c', e, by rw [tb.2 c' (ne h4 fun ps z => by unfold LamX.CodeO at z; cases z)]; exact h4⟩

theorem gx_core {α : Type} {toD : α → PyData} {toV : α → V} (dflt : α) (hTV : ∀ K H v y, Da K H v (toD y) → v = toV y) {k : Nat} {P : Addr} {elt tg iter : Expr} {ifs : List Expr} {scope : Scope} {own : List (Str × Nat)} {wi : PWs} {g : GD} {wt : PWB} {we : PW} {sl : List Nat} {Q : VK}
    {R : List α → PyData} {vR : List α → V} (hda : ∀ K H l, Da K H (vR l) (R l)) {rr : VK → Nat → (Nat → Bool) → (Nat → V) → (Nat → Hp → Prop) → Prop} (hPT : P ∈ T.tg) (hl : ∀ q ∈ T.tl, q.1 ≠ P) (mi : Mono wi) (hsl : ∀ i ∈ sl, i ∈ own.map (·.2))
    (mg : ∀ d ρ Q Q', (∀ r, Q r → Q' r) → g d ρ Q → g d ρ Q') (kg : ∀ d ρ Q, g d ρ Q → g d ρ fun ρ' => Q ρ' ∧ Off sl ρ ρ' ∧ Shd sl ρ') (mt : Mono wt) (me : Mono we)
    (hrr : ∀ (bs : List (Option α)) (Gd : Nat → Hp → Prop), (∀ i H', Gd i H' → Q (vR (bs.filterMap id)) H') → rr Q bs.length (fun i => (bs[i]?.join).isSome) (fun i => toV ((bs[i]?.join).getD dflt)) Gd)
    (h : lift T X.K W (wGen toD wi g wt we (own.map (·.2)) R) σ H Q) : GxI.tGxC (liftI T X.K W wi) (liftG T X.K sl g) (liftB T X.K W0 wt) (lift T X.K W0 we) (own.map (·.2)) P rr σ H Q := by
  generalize hvs : own.map (·.2) = vs at hsl h ⊢
  obtain ⟨G, ρ, r, no, q⟩ := h
  refine ⟨G, ρ, r, mi _ _ _ _ _ (fun ds hds J H1 r1 wk => ⟨r1.tab.g P hPT, fun H2 tb => ?_⟩) (fun _ z => z) q⟩
  obtain ⟨bs, h1, h2⟩ := hds
  have r2 := r1.tabbed tb (r1.tab.g P hPT) hl
  have e12 : ExtN (hide G.O H1) (hide G.O H2) := (r1.rebase.tabbed tb (r1.tab.g P hPT) hl).ext
  refine ⟨ds.length, fun i => (bs[i]?.join).isSome, fun i => toV ((bs[i]?.join).getD dflt), fun _ H' => Rep T X.K ⟨hide G.O H1, G.O, G.fl⟩ ρ σ H', r1.rebase.tabbed tb (r1.tab.g P hPT) hl, ⟨fun i H3 hi r3 => ?_, fun H3 r3 => ?_⟩, ?_⟩
  · have dm : ∀ a ∈ G.O, H3 a ≠ none := fun a ha z => by obtain ⟨o, e, _⟩ := r3.dom a ha; rw [z] at e; cases e
    obtain ⟨wk1, wk2⟩ := wk G.O H3 r3.ext dm
    obtain ⟨jgo, yld⟩ := wk1 i ds[i] (List.getElem?_eq_getElem hi)
    refine ⟨jgo, fun x H4 hy => ?_⟩
    obtain ⟨al, hx⟩ := yld x H4 hy
    have r4 := r3.alloc al
    obtain ⟨ob, hob, hR⟩ := h1.get (List.getElem?_eq_getElem hi)
    refine ⟨_, _, _, (r4.rebase.wipe vs), hx, mg _ _ _ _ (fun ρ2 h2 σ2 r5 w5 => ⟨?_, ?_⟩) (kg _ _ _ hR)⟩
    · rw [w5 vs hsl, wipe_wipe]
    · obtain ⟨h2, off, _⟩ := h2
      have hw5 : L2.wipe σ2 vs = L2.wipe σ vs := by rw [w5 vs hsl, wipe_wipe]
      have offv : Off vs ρ ρ2 := fun j hj => by rw [off j (fun z => hj (hsl j z)), wipeE_get hj]
      have back : ∀ {H6 : Hp}, Rep T X.K ⟨hide G.O H4, G.O, G.fl⟩ ρ2 σ2 H6 → Rep T X.K ⟨hide G.O H1, G.O, G.fl⟩ ρ σ H6 := fun {H6} r6 => r4.unwipe r6 no offv hw5
      refine liftB_intro mt r5 (mt _ _ _ _ _ (fun kk hk H6 r6 e6 => ?_) (fun _ z => z.elim) h2)
      cases ob with
      | none =>
        have hk : kk = false := hk
        subst hk
        exact ⟨by rw [hob]; rfl, ⟨fun z => Bool.noConfusion z, fun _ => back r6⟩⟩
      | some y =>
        obtain ⟨hk, hwe⟩ := hk
        subst hk
        refine ⟨by rw [hob]; rfl, fun _ => ?_, fun z => Bool.noConfusion z⟩
        refine lift_intro me r6 (me _ _ _ _ _ (fun z hz v H7 r7 e7 a7 => ?_) (fun _ z => z.elim) hwe)
        subst hz
        exact ⟨by rw [hob]; exact hTV _ _ _ _ a7, back r7⟩
  · have dm : ∀ a ∈ G.O, H3 a ≠ none := fun a ha z => by obtain ⟨o, e, _⟩ := r3.dom a ha; rw [z] at e; cases e
    exact (wk G.O H3 r3.ext dm).2 _ (Nat.le_refl _)
  · rw [h1.length]
    exact hrr bs _ fun i H' r' => h2 _ H' (r'.unbase r1.ext) (hda _ _ _)
theorem de_gen {α : Type} {toD : α → PyData} {toV : α → V} (dflt : α) (hTV : ∀ K H v y, Da K H v (toD y) → v = toV y) {R : List α → PyData} {vR : List α → V} (hda : ∀ K H l, Da K H (vR l) (R l)) {k : Nat} {cc P : Addr} {f : Str} {id' : String} {rr : VK → Nat → (Nat → Bool) → (Nat → V) → (Nat → Hp → Prop) → Prop} {elt tg iter : Expr} {ifs : List Expr} {scope : Scope} {own : List (Str × Nat)} {wi : PWs} {g : GD} {wt : PWB} {we : PW} {sl : List Nat}
    (hrr : ∀ (Q : VK) (bs : List (Option α)) (Gd : Nat → Hp → Prop), (∀ i H', Gd i H' → Q (vR (bs.filterMap id)) H') → rr Q bs.length (fun i => (bs[i]?.join).isSome) (fun i => toV ((bs[i]?.join).getD dflt)) Gd)
    (B : GxI.GxB X f id' rr) (hgl : Gl X f) (hm : X.mg f = none) (hr : Room (k + 1) X.A) (hc : X.calm = true) (hN : X.N.Nodup) (TB : GxR.TabB X.base X.mg cc P) (hPT : P ∈ T.tg) (hl : ∀ q ∈ T.tl, q.1 ≠ P) (hcode : X.env.code = .ref cc) (gs : GxI.GxS X.env scope) (ok : BlkOk X.N X.env.scope scope own) (hsl : ∀ i ∈ sl, i ∈ own.map (·.2))
    (hi : DI T X W tg iter wi)
    (hg : ∀ (A : Around) (s : Shared) (H : Hp) (C : Addr) (cd : Value) (cl : List (Str × Addr)) (fp : List Addr), DG T (GxI.gcx X A s H (genEnv scope cl C cd builtinsNs X.env) fp) sl tg g)
    (ht : ∀ (A : Around) (s : Shared) (H : Hp) (C : Addr) (cd : Value) (cl : List (Str × Addr)) (fp : List Addr), Room k A → DTs T (GxI.gcx X A s H (genEnv scope cl C cd builtinsNs X.env) fp) W0 ifs wt)
    (he : ∀ (A : Around) (s : Shared) (H : Hp) (C : Addr) (cd : Value) (cl : List (Str × Addr)) (fp : List Addr), Room k A → DE T (GxI.gcx X A s H (genEnv scope cl C cd builtinsNs X.env) fp) W0 elt we)
    (hs : ∀ v, genFold iter X.env v = pure v := by intro _; rfl) (hn : f ≠ "__name__" := by decide) (hd : (f == ("__debug__" : Str)) = false := by decide)
    (hst : starEach [.GeneratorExp elt [⟨tg, iter, ifs, 0⟩] scope gpos] X.env = (false, eval (.GeneratorExp elt [⟨tg, iter, ifs, 0⟩] scope gpos) X.env) :: starEach [] X.env := by rfl) :
    DE T X W (.Call (.Name f p) [.GeneratorExp elt [⟨tg, iter, ifs, 0⟩] scope gpos] [] pos) (wGen toD wi g wt we (own.map (·.2)) R) := by
  have hrk : Room k X.A := hr.mono (Nat.le_succ _)
  have ht0 := ht X.A X.s_0 X.H_0 0 .none [] [] hrk
  have he0 := he X.A X.s_0 X.H_0 0 .none [] [] hrk
  have hg0 := hg X.A X.s_0 X.H_0 0 .none [] []
  exact ⟨pe_mono (GxI.pe_gx (wi := liftI T X.K W wi) (g := liftG T X.K sl g) (tt := liftB T X.K W0 wt) (te := lift T X.K W0 we) B hgl hm hr hc hN TB hcode gs ok hi.pi (fun A s H C cd cl fp _ => (hg A s H C cd cl fp).pg) (fun A s H C cd cl fp hR => (ht A s H C cd cl fp hR).pt) (fun A s H C cd cl fp hR => (he A s H C cd cl fp hR).pe) hs hn hd hst)
    fun σ H Q q => gx_core (k := k) (P := P) (elt := elt) (tg := tg) (iter := iter) (ifs := ifs) (scope := scope) (own := own) dflt hTV hda hPT hl hi.mono hsl hg0.mono hg0.keep ht0.mono he0.mono (hrr Q) q, mono_Gen hi.mono⟩
theorem hrr_any (Q : VK) (bs : List (Option Bool)) (Gd : Nat → Hp → Prop) (h : ∀ i H', Gd i H' → Q (.bl ((bs.filterMap id).any id)) H') : GxI.rAny Q bs.length (fun i => (bs[i]?.join).isSome) (fun i => .bl ((bs[i]?.join).getD false)) Gd :=
  ⟨fun i => (bs[i]?.join).getD false, rfl, fun i H' g => by
    have e := pass_map false bs
    have : (passing (fun i => (bs[i]?.join).isSome) bs.length 0).any (fun i => (bs[i]?.join).getD false) = (bs.filterMap id).any id := by rw [← e, List.any_map]; rfl
    rw [this]
    exact h i H' g⟩
theorem hrr_all (Q : VK) (bs : List (Option Bool)) (Gd : Nat → Hp → Prop) (h : ∀ i H', Gd i H' → Q (.bl ((bs.filterMap id).all id)) H') : GxI.rAll Q bs.length (fun i => (bs[i]?.join).isSome) (fun i => .bl ((bs[i]?.join).getD false)) Gd :=
  ⟨fun i => (bs[i]?.join).getD false, rfl, fun i H' g => by
    have e := pass_map false bs
    have : (passing (fun i => (bs[i]?.join).isSome) bs.length 0).all (fun i => (bs[i]?.join).getD false) = (bs.filterMap id).all id := by rw [← e, List.all_map]; rfl
    rw [this]
    exact h i H' g⟩
theorem hrr_sum (Q : VK) (bs : List (Option Int)) (Gd : Nat → Hp → Prop) (h : ∀ i H', Gd i H' → Q (.int (bs.filterMap id).sum) H') : GxI.rSum Q bs.length (fun i => (bs[i]?.join).isSome) (fun i => .int ((bs[i]?.join).getD 0)) Gd :=
  ⟨fun i => (bs[i]?.join).getD 0, rfl, fun i H' g => by
    have e := pass_map (0 : Int) bs
    rw [e]
    exact h i H' g⟩
end
end PL
set_option Elab.async false
set_option linter.all false
set_option maxRecDepth 100000
set_option maxHeartbeats 2000000
namespace PL
open PySem PySem.Spec PyProof.Rows L2
open LamX (ExtN Tabs TabS)
/-! ### statements -/
structure PEn where
  nx : En → Prop
  rt : PyData → Prop
  bk : En → Prop := fun _ => False
  ct : En → Prop := fun _ => False
  ex : Exn → Prop := fun _ => False
  rp : PyData → Prop := fun _ => False
structure PEn.Le (D D' : PEn) : Prop where
  nx : ∀ ρ, D.nx ρ → D'.nx ρ
  rt : ∀ d, D.rt d → D'.rt d
  bk : ∀ ρ, D.bk ρ → D'.bk ρ
  ct : ∀ ρ, D.ct ρ → D'.ct ρ
  ex : ∀ x, D.ex x → D'.ex x
  rp : ∀ d, D.rp d → D'.rp d
abbrev SW := En → PEn → Prop
def MonoS (w : SW) : Prop := ∀ ρ D D', PEn.Le D D' → w ρ D → w ρ D'
section
variable (T : Tb) (K : PySem.W.Frag) (W : WX)
def FlApt (fl : List (Addr × HO)) (ρ : En) (σ : L2.St) : Prop := ∀ q ∈ fl, Apt ρ σ q.1
def endS (G : Gh) (D : Ends) : PEn where
  nx ρ' := ∀ σ' H' O', Rep T K ⟨G.Hb, O', G.fl⟩ ρ' σ' H' → FlApt G.fl ρ' σ' → D.nx σ' H'
  rt d := ∀ v ρ' σ' H' O', Rep T K ⟨G.Hb, O', G.fl⟩ ρ' σ' H' → Da K (hide O' H') v d → D.rt v H'
  rp d := ∀ v ρ' σ' H' O', Rep T K ⟨G.Hb, O', G.fl⟩ ρ' σ' H' → Plt (hide O' H') v → Da K (hide O' H') v d → D.rt v H'
  bk ρ' := ∀ σ' H' O', Rep T K ⟨G.Hb, O', G.fl⟩ ρ' σ' H' → FlApt G.fl ρ' σ' → D.bk σ' H'
  ct ρ' := ∀ σ' H' O', Rep T K ⟨G.Hb, O', G.fl⟩ ρ' σ' H' → FlApt G.fl ρ' σ' → D.ct σ' H'
  ex x := ∀ ρ' σ' H' O' cls dd, Rep T K ⟨G.Hb, O', G.fl⟩ ρ' σ' H' → ExR K x cls dd (hide O' H') → W cls dd σ' H'
def liftS (w : SW) : TS := fun D σ H => ∃ G ρ, Rep T K G ρ σ H ∧ FlApt G.fl ρ σ ∧ w ρ (endS T K W G D)
end
structure DS (T : Tb) (X : Cx) (W : WX) (st : Stmt) (w : SW) : Prop where
  ps : PS X st (liftS T X.K W w)
  mono : MonoS w
structure DSs (T : Tb) (X : Cx) (W : WX) (st : List Stmt) (w : SW) : Prop where
  ps : PSs X st (liftS T X.K W w)
  mono : MonoS w
theorem ps_mono {X : Cx} {e : Stmt} {t t' : TS} (h : PS X e t) (i : ∀ D σ H, t' D σ H → t D σ H) : PS X e t' := ⟨fun pins s σ H Q I q => h.run pins s σ H Q I (i _ _ _ q)⟩
theorem pss_mono {X : Cx} {e : List Stmt} {t t' : TS} (h : PSs X e t) (i : ∀ D σ H, t' D σ H → t D σ H) : PSs X e t' := ⟨fun pins s σ H Q I q => h.run pins s σ H Q I (i _ _ _ q)⟩
section
variable {T : Tb} {X : Cx} {W : WX} {pos p pos' apos : Pos} {e a b c : Expr} {st : Stmt} {rest : List Stmt} {K : PySem.W.Frag} {G G2 : Gh} {ρ ρ2 : En} {σ σ2 : L2.St} {H H' : Hp} {D : Ends}
theorem ex_out {O' : List Addr} {x : Exn} (h : (endS T K W G D).ex x) : exOut T K W ⟨G.Hb, O', G.fl⟩ ρ σ x := fun H' cls dd r q => h ρ σ H' O' cls dd r q
theorem ex_out' {x : Exn} (h : (endS T K W G D).ex x) : exOut T K W G ρ σ x := ex_out (O' := G.O) h
def sNil : SW := fun ρ D => D.nx ρ
def sSeq (u v : SW) : SW := fun ρ D => u ρ { D with nx := fun ρ' => v ρ' D }
theorem le_nx {D D' : PEn} (l : PEn.Le D D') {v : SW} (mv : MonoS v) : PEn.Le { D with nx := fun ρ' => v ρ' D } { D' with nx := fun ρ' => v ρ' D' } := ⟨fun ρ h => mv _ _ _ l h, l.rt, l.bk, l.ct, l.ex, l.rp⟩
theorem dss_nil : DSs T X W [] sNil := ⟨pss_mono pss_nil fun D σ H q => by
  obtain ⟨G, ρ, r, fa, q⟩ := q
  exact q σ H G.O r fa, fun _ _ _ l h => l.nx _ h⟩
theorem dss_cons {u v : SW} (h1 : DS T X W st u) (h2 : DSs T X W rest v) : DSs T X W (st :: rest) (sSeq u v) :=
  ⟨pss_mono (pss_cons h1.ps h2.ps) fun D σ H q => by
    obtain ⟨G, ρ, r, fa, q⟩ := q
    refine ⟨G, ρ, r, fa, h1.mono ρ { endS T X.K W G D with nx := fun ρ' => v ρ' (endS T X.K W G D) } _ ⟨fun ρ' h σ' H' O' r' fa' => ?_, fun _ h => h, fun _ h => h, fun _ h => h, fun _ h => h, fun _ h => h⟩ q⟩
    exact ⟨⟨G.Hb, O', G.fl⟩, ρ', r', fa', h⟩,
   fun ρ D D' l h => h1.mono _ _ _ (le_nx l h2.mono) h⟩
theorem dss_one {u : SW} (h1 : DS T X W st u) : DSs T X W [st] u := ⟨pss_one h1.ps, h1.mono⟩
theorem ds_pass : DS T X W (.Pass pos) sNil := ⟨ps_mono ps_pass fun D σ H q => by
  obtain ⟨G, ρ, r, fa, q⟩ := q
  exact q σ H G.O r fa, fun _ _ _ l h => l.nx _ h⟩
theorem ds_doc {x j} : DS T X W (.Expr (.Constant (.str x) j pos) pos') sNil := ⟨ps_mono ps_doc fun D σ H q => by
  obtain ⟨G, ρ, r, fa, q⟩ := q
  exact q σ H G.O r fa, fun _ _ _ l h => l.nx _ h⟩
def sRet (w : PW) : SW := fun ρ D => w ρ D.rt D.ex
theorem ds_ret {w : PW} (h : DE T X W e w) : DS T X W (.Return (some e) pos) (sRet w) := ⟨ps_mono (ps_ret h.pe) fun D σ H q => by
  obtain ⟨G, ρ, r, fa, q⟩ := q
  exact ⟨G, ρ, r, h.mono _ _ _ _ _ (fun d hd v H' r' a => hd v ρ σ H' G.O r' a) (fun _ z => ex_out' z) q⟩, fun ρ D D' l q => h.mono _ _ _ _ _ l.rt l.ex q⟩
def sRetN : SW := fun _ D => D.rt .none
theorem ds_retN : DS T X W (.Return none pos) sRetN := ⟨ps_mono ps_retN fun D σ H q => by
  obtain ⟨G, ρ, r, fa, q⟩ := q
  exact q _ ρ σ H G.O r .non, fun _ _ _ l h => l.rt _ h⟩
def sIf (t : PWB) (u v : SW) : SW := fun ρ D => t ρ (fun k => if k = true then u ρ D else v ρ D) D.ex
theorem ds_if {sa sb : List Stmt} {t : PWB} {u v : SW} (hc : DT T X W c t) (ha : DSs T X W sa u) (hb : DSs T X W sb v) : DS T X W (.If c sa sb pos) (sIf t u v) :=
  ⟨ps_mono (ps_if hc.pt ha.ps hb.ps) fun D σ H q => by
    obtain ⟨G, ρ, r, fa, q⟩ := q
    refine ⟨G, ρ, r, hc.mono _ _ _ _ _ (fun k hk H' r' => ?_) (fun _ z => ex_out' z) q⟩
    by_cases z : k = true
    · rw [if_pos z] at hk ⊢; exact ⟨G, ρ, r', fa, hk⟩
    · rw [if_neg z] at hk ⊢; exact ⟨G, ρ, r', fa, hk⟩,
   fun ρ D D' l q => hc.mono _ _ _ _ _ (fun k hk => by
    by_cases z : k = true
    · rw [if_pos z] at hk ⊢; exact ha.mono _ _ _ l hk
    · rw [if_neg z] at hk ⊢; exact hb.mono _ _ _ l hk) l.ex q⟩
/-! ### slots set -/
theorem Rep.setSl (r : Rep T K G ρ σ H) {i : Nat} {v : V} {s : Sl} (h : SlOk K T.dc G.O H s (some v)) (hs : s.owned = true → ∀ b, v = .ref b → ∀ (j : Nat) (t : Sl), j ≠ i → ρ[j]? = some t → t.owned = true → σ[j]? ≠ some (some (.ref b))) : Rep T K G (ρ.set i s) (σ.set i (some v)) H where
  len := by rw [List.length_set, List.length_set]; exact r.len
  slot j t ht := by
    by_cases e : i = j
    · subst e
      have hl : i < ρ.length := by
        by_cases z : i < ρ.length
        · exact z
        · rw [List.getElem?_eq_none (by rw [List.length_set]; omega)] at ht; cases ht
      rw [List.getElem?_set_self hl] at ht
      cases ht
      exact ⟨some v, List.getElem?_set_self (by rw [← r.len]; exact hl), h⟩
    · rw [List.getElem?_set_ne e] at ht ⊢
      exact r.slot j t ht
  sep j k t u a hjk hj hk ht hu e1 e2 := by
    have at_i : ∀ {l : Nat} {u : Sl}, l = i → (ρ.set i s)[l]? = some u → u = s := fun {l u} e hl => by
      subst e
      by_cases hz : l < ρ.length
      · rw [List.getElem?_set_self hz] at hl; cases hl; rfl
      · rw [List.getElem?_eq_none (by rw [List.length_set]; omega)] at hl; cases hl
    have at_v : ∀ {l : Nat} {b : Addr}, l = i → (σ.set i (some v))[l]? = some (some (.ref b)) → v = .ref b := fun {l b} e hl => by
      subst e
      by_cases hz : l < σ.length
      · rw [List.getElem?_set_self hz] at hl; cases hl; rfl
      · rw [List.getElem?_eq_none (by rw [List.length_set]; omega)] at hl; cases hl
    by_cases zj : j = i
    · have zk : k ≠ i := fun z => hjk (zj.trans z.symm)
      have es := at_i zj hj
      rw [List.getElem?_set_ne (Ne.symm zk)] at hk e2
      rw [es] at ht
      exact hs ht a (at_v zj e1) k u zk hk hu e2
    · rw [List.getElem?_set_ne (Ne.symm zj)] at hj e1
      by_cases zk : k = i
      · have es := at_i zk hk
        rw [es] at hu
        exact hs hu a (at_v zk e2) j t zj hj ht e1
      · rw [List.getElem?_set_ne (Ne.symm zk)] at hk e2
        exact r.sep j k t u a hjk hj hk ht hu e1 e2
  tab := r.tab
  ext := r.ext
  dom := r.dom
  fly := r.fly
  dcs := r.dcs
theorem FlApt.setSl {fl : List (Addr × HO)} (fa : FlApt fl ρ σ) {i : Nat} {v : V} {s : Sl} (h : s.owned = true → ∀ q ∈ fl, v ≠ .ref q.1) : FlApt fl (ρ.set i s) (σ.set i (some v)) := fun q hq j t hj ht e => by
  by_cases z : i = j
  · subst z
    by_cases hl : i < ρ.length
    · rw [List.getElem?_set_self hl] at hj
      cases hj
      by_cases hl2 : i < σ.length
      · rw [List.getElem?_set_self hl2] at e
        cases e
        exact h ht q hq rfl
      · rw [List.getElem?_eq_none (by rw [List.length_set]; omega)] at e; cases e
    · rw [List.getElem?_eq_none (by rw [List.length_set]; omega)] at hj; cases hj
  · rw [List.getElem?_set_ne z] at hj e
    exact fa q hq j t hj ht e
theorem FlApt.setSh {fl : List (Addr × HO)} (fa : FlApt fl ρ σ) {i : Nat} {v : V} {d : PyData} : FlApt fl (ρ.set i (.sh d)) (σ.set i (some v)) := fa.setSl fun h => by cases h
def sSet (i : Nat) (w : PW) : SW := fun ρ D => w ρ (fun d => D.nx (ρ.set i (.sh d))) D.ex
theorem ds_set {i : Nat} {x : Str} {w : PW} (hN : X.N.Nodup) (hi : X.N[i]? = some x) (hx : Loc X.env.scope x) (h : DE T X W e w) (hs : swapsWith e (some (.Name x pos')) pos.line X.env = pure false := by rfl)
    (hf : X.fn x = true ∨ X.env.scope.names.lookup x = some .local := by first | exact .inl rfl | exact .inr rfl | assumption) : DS T X W (.Assign [.Name x pos'] e pos) (sSet i w) :=
  ⟨ps_mono (ps_set hN hi hx h.pe hs hf) fun D σ H q => by
    obtain ⟨G, ρ, r, fa, q⟩ := q
    exact ⟨G, ρ, r, h.mono _ _ _ _ _ (fun d hd v H' r' a => hd _ H' G.O (r'.setSh a) fa.setSh) (fun _ z => ex_out' z) q⟩, fun ρ D D' l q => h.mono _ _ _ _ _ (fun d hd => l.nx _ hd) l.ex q⟩
def sOwn (i : Nat) (w : PW) : SW := fun ρ D => w ρ (fun d => match d with | .list ds => D.nx (ρ.set i (.ol ds)) | _ => False) D.ex
theorem mono_own {i : Nat} {w : PW} (m : Mono w) : MonoS (sOwn i w) := fun ρ D D' l q => m _ _ _ _ _ (fun d hd => by cases d <;> first | exact l.nx _ hd | exact hd) l.ex q
theorem own_imp {i : Nat} {w : PW} (m : Mono w) (q : liftS T K W (sOwn i w) D σ H) : liftF T K W w σ H fun x H1 => gName i x σ H1 D.nx := by
  obtain ⟨G, ρ, r, fa, q⟩ := q
  refine ⟨G, ρ, r, m _ _ _ _ _ (fun d hd a vs ds H' ed r' na ap h1 h2 => ?_) (fun _ z => ex_out' z) q⟩
  subst ed
  exact hd _ H' (a :: G.O) (r'.setSl (s := .ol ds) ⟨a, vs, rfl, ⟨List.mem_cons_self, fun z => na (r.dcs a z).1⟩, h1, h2⟩ fun _ b eb j t _ hj ht => by cases eb; exact ap j t hj ht) (fa.setSl fun _ q hq e => na (by cases e; exact (r.fly q hq).1))
theorem ds_own {i : Nat} {x : Str} {w : PW} (hN : X.N.Nodup) (hi : X.N[i]? = some x) (hx : Loc X.env.scope x) (h : DF T X W e w) (hs : swapsWith e (some (.Name x pos')) pos.line X.env = pure false := by rfl)
    (hf : X.fn x = true ∨ X.env.scope.names.lookup x = some .local := by first | exact .inl rfl | exact .inr rfl | assumption) : DS T X W (.Assign [.Name x pos'] e pos) (sOwn i w) :=
  ⟨ps_mono (ps_set hN hi hx h.pe hs hf) fun D σ H q => own_imp h.mono q, mono_own h.mono⟩
/-- y = [..], y a plain local of the def -/
theorem ds_ownLc {i : Nat} {y : Str} {py spos : Pos} {elt tg iter : Expr} {ifs : List Expr} {scope : Scope} {own : List (Str × Nat)} {wi : PWs} {g : GD} {wt : PWB} {we : PW} {sl : List Nat} (hc : X.calm = true) (hN : X.N.Nodup) (hy : X.N[i]? = some y) (hyl : X.env.scope.names.lookup y = some .local)
    (hsw : swapsWith (.ListComp elt [⟨tg, iter, ifs, 0⟩] scope pos) (some (.Name y py)) spos.line X.env = pure true) (hi : DI T X W tg iter wi) (ok : BlkOk X.N X.env.scope scope own) (hsl : ∀ i ∈ sl, i ∈ own.map (·.2))
    (hg : ∀ (s : Shared) (H : Hp) (C : Addr) (cl : List (Str × Addr)) (fp : List Addr), DG T (X.blk s H scope (compEnvC scope cl C X.env) fp) sl tg g) (ht : ∀ (s : Shared) (H : Hp) (C : Addr) (cl : List (Str × Addr)) (fp : List Addr), DTs T (X.blk s H scope (compEnvC scope cl C X.env) fp) W0 ifs wt)
    (he : ∀ (s : Shared) (H : Hp) (C : Addr) (cl : List (Str × Addr)) (fp : List Addr), DE T (X.blk s H scope (compEnvC scope cl C X.env) fp) W0 elt we) (hs : ∀ x, foldedSetIterable iter X.env x = pure x := by intro _; rfl) :
    DS T X W (.Assign [.Name y py] (.ListComp elt [⟨tg, iter, ifs, 0⟩] scope pos) spos) (sOwn i (wLc wi g wt we (own.map (·.2)))) := by
  have hg0 := hg X.s_0 X.H_0 0 [] []
  have ht0 := ht X.s_0 X.H_0 0 [] []
  have he0 := he X.s_0 X.H_0 0 [] []
  exact ⟨ps_mono (ps_setLc (wi := liftI T X.K W wi) (g := liftG T X.K sl g) (tt := liftB T X.K W0 wt) (te := lift T X.K W0 we) hc hN hy hyl hsw hi.pi ok (fun s H C cl fp => (hg s H C cl fp).pg) (fun s H C cl fp => (ht s H C cl fp).pt) (fun s H C cl fp => (he s H C cl fp).pe) hs)
    fun D σ H q => lc_imp hi.mono hg0.mono hg0.keep ht0.mono he0.mono hsl (own_imp (mono_Lc hi.mono hg0.mono ht0.mono he0.mono) q), mono_own (mono_Lc hi.mono hg0.mono ht0.mono he0.mono)⟩
theorem FlApt.asg {fl : List (Addr × HO)} {sl : List Nat} (fa : FlApt fl ρ σ) (h1 : Off sl ρ ρ2) (h2 : Shd sl ρ2) (hw : ∀ vs, (∀ i ∈ sl, i ∈ vs) → wipe σ2 vs = wipe σ vs) : FlApt fl ρ2 σ2 := fun q hq j t hj ht e => by
  by_cases z : j ∈ sl
  · rw [h2 j z t hj] at ht; cases ht
  · rw [h1 j z] at hj
    have := hw sl fun i hi => hi
    have e2 : (wipe σ2 sl)[j]? = (wipe σ sl)[j]? := by rw [this]
    rw [wipe_get z, wipe_get z, e] at e2
    exact fa q hq j t hj ht e2.symm
def sAsg (w : PW) (g : GD) : SW := fun ρ D => w ρ (fun d => g d ρ D.nx) D.ex
theorem ds_asg {tg : Expr} {w : PW} {g : GD} {sl : List Nat} (h : DE T X W e w) (hg : DG T X sl tg g) (hs : swapsWithSole [tg] e pos.line X.env = pure false := by rfl) (hw : swappedStores [tg] e X.env = pure none := by rfl)
    (h1 : (assignEach [tg] X.env).map (·.2) = [assign tg X.env] := by rfl) : DS T X W (.Assign [tg] e pos) (sAsg w g) :=
  ⟨ps_mono (ps_asg h.pe hg.pg hs hw h1) fun D σ H q => by
    obtain ⟨G, ρ, r, fa, q⟩ := q
    exact ⟨G, ρ, r, h.mono _ _ _ _ _ (fun d hd v H' r' a => ⟨G, ρ, d, r', a, hg.mono _ _ _ _ (fun ρ' q' σ' r'' hw => q'.1 σ' H' G.O r'' (fa.asg q'.2.1 q'.2.2 hw)) (hg.keep _ _ _ hd)⟩) (fun _ z => ex_out' z) q⟩, fun ρ D D' l q => h.mono _ _ _ _ _ (fun d hd => hg.mono _ _ _ _ (fun _ z => l.nx _ z) hd) l.ex q⟩
def sAug (i : Nat) (f : PyData → PyData → (PyData → Prop) → Prop) (w : PW) : SW := fun ρ D => match ρ[i]? with
  | some (.sh x) => w ρ (fun y => f x y fun z => D.nx (ρ.set i (.sh z))) D.ex
  | _ => False
theorem ds_aug {i : Nat} {x : Str} {op : Operator} {f : PyData → PyData → (PyData → Prop) → Prop} {w : PW} (hN : X.N.Nodup) (hi : X.N[i]? = some x) (hx : Loc X.env.scope x) (h : DE T X W e w) (ho : OpD T X (inplaceOp op) f) (mf : MonoF f)
    (hf : X.fn x = true ∨ X.env.scope.names.lookup x = some .local := by first | exact .inl rfl | exact .inr rfl | assumption) : DS T X W (.AugAssign (.Name x pos') op e pos) (sAug i f w) :=
  ⟨ps_mono (ps_aug hN hi hx h.pe ho hf) fun D σ H q => by
    obtain ⟨G, ρ, r, fa, q⟩ := q
    unfold sAug at q
    split at q
    · rename_i d hd
      obtain ⟨v0, h1, xv, h2, h3⟩ := r.slot i _ hd
      rw [h2] at h1
      refine ⟨xv, h1, lift_intro h.mono r (h.mono _ _ _ _ _ (fun y hy v H1 r1 e1 a1 => ?_) (fun _ z => ex_out' z) q)⟩
      exact ⟨G, ρ, σ, d, y, r1, .sh (h3.ext e1), .sh a1, mf _ _ _ _ (fun z hz v' H'' r'' a'' => hz _ H'' G.O (r''.setSh a'') fa.setSh) hy⟩
    · exact q.elim, fun ρ D D' l q => by
    unfold sAug at q ⊢
    split at q
    · exact h.mono _ _ _ _ _ (fun y hy => mf _ _ _ _ (fun z hz => l.nx _ hz) hy) l.ex q
    · exact q⟩
/-! ### a list of ours that changes -/
/-- writing the list in slot i -/
theorem Rep.wr (r : Rep T K G ρ σ H) {i : Nat} {ds ds' : List PyData} {a : Addr} {vs vs' : List V} (hi : ρ[i]? = some (.ol ds)) (hv : σ[i]? = some (some (.ref a))) (ha : Own T.dc G.O a) (h1 : H a = some (.lst vs)) (hx : DaAll K (hide G.O H) vs' ds') (hfl : ∀ q ∈ G.fl, q.1 ≠ a) :
    Rep T K G (ρ.set i (.ol ds')) σ (upd H a (.lst vs')) := by
  have eh : hide G.O (upd H a (.lst vs')) = hide G.O H := hide_upd ha.1
  have hil : i < ρ.length := (List.getElem?_eq_some_iff.mp hi).1
  refine ⟨by rw [List.length_set]; exact r.len, fun j s hs => ?_, fun j k s t b hjk hj hk hs ht e1 e2 => ?_, r.tab.upd h1 (.inl ⟨_, rfl⟩), by rw [eh]; exact r.ext, fun b hb => ?_, fun q hq => ?_, fun b hb => ⟨(r.dcs b hb).1, by rw [upd_ne fun z => ha.2 (by rw [← z]; exact hb)]; exact (r.dcs b hb).2.1, (r.dcs b hb).2.2⟩⟩
  · by_cases e : i = j
    · subst e
      rw [List.getElem?_set_self hil] at hs
      cases hs
      exact ⟨_, hv, a, vs', rfl, ha, upd_same, by rw [eh]; exact hx⟩
    · rw [List.getElem?_set_ne e] at hs
      obtain ⟨u, h2, h3⟩ := r.slot j s hs
      have ne : ∀ b, s.owned = true → u = some (.ref b) → b ≠ a := fun b hw eu z => by
        rw [eu, z] at h2
        exact r.sep i j _ s a e hi hs rfl hw hv h2
      refine ⟨u, h2, ?_⟩
      cases s with
      | un => trivial
      | sh d => obtain ⟨x, h4, h5⟩ := h3; exact ⟨x, h4, by rw [eh]; exact h5⟩
      | ol _ => obtain ⟨b, us, h4, h5, h6, h7⟩ := h3; exact ⟨b, us, h4, h5, by rw [upd_ne (ne b rfl h4)]; exact h6, by rw [eh]; exact h7⟩
      | ok _ => obtain ⟨b, us, h4, h5, h6, h7, h8⟩ := h3; exact ⟨b, us, h4, h5, by rw [upd_ne (ne b rfl h4)]; exact h6, h7, by rw [eh]; exact h8⟩
      | ot _ => obtain ⟨b, us, h4, h5, h6, h7, h8⟩ := h3; exact ⟨b, us, h4, h5, by rw [upd_ne (ne b rfl h4)]; exact h6, h7, by rw [eh]; exact h8⟩
      | dice => exact h3
      | scr ns => obtain ⟨b, h4, h5⟩ := h3; exact ⟨b, h4, by rw [eh]; exact h5⟩
  · have own : ∀ {l : Nat} {u : Sl}, (ρ.set i (.ol ds'))[l]? = some u → u.owned = true → ∃ u', ρ[l]? = some u' ∧ u'.owned = true := fun {l u} hl hu => by
      by_cases e : i = l
      · subst e; exact ⟨_, hi, rfl⟩
      · rw [List.getElem?_set_ne e] at hl; exact ⟨u, hl, hu⟩
    obtain ⟨s', hj', hs'⟩ := own hj hs
    obtain ⟨t', hk', ht'⟩ := own hk ht
    exact r.sep j k s' t' b hjk hj' hk' hs' ht' e1 e2
  · by_cases z : b = a
    · rw [z, upd_same]; exact ⟨_, rfl, fun ps e => by cases e⟩
    · rw [upd_ne z]; exact r.dom b hb
  · obtain ⟨h2, h3⟩ := r.fly q hq
    exact ⟨h2, by rw [upd_ne (hfl q hq)]; exact h3⟩
end
end PL
set_option Elab.async false
set_option linter.all false
set_option maxRecDepth 100000
set_option maxHeartbeats 2000000
namespace PL
open PySem PySem.Spec PyProof.Rows L2
open LamX (ExtN Tabs TabS)
section
variable {T : Tb} {X : Cx} {W : WX} {pos p pos' apos : Pos} {e a b c : Expr} {st : Stmt} {rest : List Stmt} {K : PySem.W.Frag} {G G2 : Gh} {ρ ρ2 : En} {σ σ2 : L2.St} {H H' : Hp} {D : Ends}
/-! ### raise -/
def sRaise (C : Addr) : SW := fun _ D => D.ex ⟨C, none⟩
theorem ds_raise {C : Addr} (hc : X.calm = true) (tk : Takes X W) (hm : PMk X e (fun _ H Q => Q (.ref C) none H)) : DS T X W (.Raise (some e) none pos) (sRaise C) :=
  ⟨ps_mono (ps_raise hc tk hm) fun D σ H q => by
    obtain ⟨G, ρ, r, fa, q⟩ := q
    exact q ρ σ H G.O _ _ r ⟨rfl, rfl⟩, fun ρ D D' l q => l.ex _ q⟩
/-! ### an expression as a statement -/
def sEx (w : PW) : SW := fun ρ D => w ρ (fun _ => D.nx ρ) D.ex
theorem ds_ex {w : PW} (h : DE T X W e w) (hs : swapsWith e none pos.line X.env = pure false := by rfl) : DS T X W (.Expr e pos) (sEx w) :=
  ⟨ps_mono (ps_expr h.pe hs) fun D σ H q => by
    obtain ⟨G, ρ, r, fa, q⟩ := q
    exact ⟨G, ρ, r, h.mono _ _ _ _ _ (fun d hd v H' r' a => hd σ H' G.O r' fa) (fun _ z => ex_out' z) q⟩, fun ρ D D' l q => h.mono _ _ _ _ _ (fun d hd => l.nx _ hd) l.ex q⟩
/-! ### xs.append(e), xs ours -/
def sApp (i : Nat) (w : PW) : SW := fun ρ D => match ρ[i]? with
  | some (.ol ds) => w ρ (fun d => ds.length < sizeLine ∧ D.nx (ρ.set i (.ol (ds ++ [d])))) D.ex
  | _ => False
theorem ds_app {i : Nat} {w : PW} (ha : PE X a (tVar i)) (h : DE T X W e w)
    (hs0 : swapsWith (.Call (.Attribute a "append" apos) [e] [] pos) none pos'.line X.env = pure false := by rfl)
    (hbase : attributeBase a "append" X.env (eval a X.env) = eval a X.env := by rfl)
    (hfew : ((backTo pos (starEach [e] X.env)).all (fun x => !x.1) && (backToKw pos (keywordEach [] X.env)).all (fun x => x.1.isSome)
      && decide (([e]).length + ([] : List Keyword).length + (if ([] : List Keyword).isEmpty then 0 else 1) < 30)) = true := by rfl)
    (hline : (apos.endLine == pos.line) = true := by rfl) (hs : starEach [e] X.env = (false, eval e X.env) :: starEach [] X.env := by rfl) :
    DS T X W (.Expr (.Call (.Attribute a "append" apos) [e] [] pos) pos') (sApp i w) :=
  ⟨ps_mono (ps_expr (pe_bm PySem.F.plainAttrs_list PySem.F.slot_list_append PySem.F.type_list_append mt_append ha (pa_cons h.pe pa_nil hs) hbase hfew hline hs (by rfl)) hs0) fun D σ H q => by
    obtain ⟨G, ρ, r, fa, q⟩ := q
    unfold sApp at q
    split at q
    · rename_i ds hd
      obtain ⟨v, h1, b, vs, rfl, h3, h4, h5⟩ := r.slot i _ hd
      refine ⟨_, h1, .inl ⟨rfl, _, SqL.of h4⟩, ⟨G, ρ, r, h.mono _ _ _ _ _ (fun d hd' v H1 r1 a1 => ?_) (fun _ z => ex_out' z) q⟩⟩
      obtain ⟨v', h1', b', vs', e', h3', h4', h5'⟩ := r1.slot i _ hd
      rw [h1] at h1'
      cases h1'
      cases e'
      refine ⟨_, vs', v, rfl, rfl, h4', by rw [h5'.length]; exact hd'.1, ?_⟩
      exact hd'.2 σ _ G.O (r1.wr hd h1 h3' h4' (h5'.append (.cons a1 .nil)) fun q hq z => fa q hq i _ hd rfl (by rw [z]; exact h1)) (fun q hq j t hj ht e => by
        by_cases z : i = j
        · subst z; exact fa q hq i _ hd rfl e
        · rw [List.getElem?_set_ne z] at hj
          exact fa q hq j t hj ht e)
    · exact q.elim, fun ρ D D' l q => by
    unfold sApp at q ⊢
    split at q
    · exact h.mono _ _ _ _ _ (fun d hd => ⟨hd.1, l.nx _ hd.2⟩) l.ex q
    · exact q⟩
theorem FlApt.wr {fl : List (Addr × HO)} {i : Nat} {s s' : Sl} (fa : FlApt fl ρ σ) (hd : ρ[i]? = some s) (ho : s.owned = true) : FlApt fl (ρ.set i s') σ := fun q hq j t hj ht e => by
  by_cases z : i = j
  · subst z; exact fa q hq i _ hd ho e
  · rw [List.getElem?_set_ne z] at hj
    exact fa q hq j t hj ht e
/-! ### xs[k] = e, xs ours -/
def sSetI (i : Nat) (wk w : PW) : SW := fun ρ D => match ρ[i]? with
  | some (.ol ds) => w ρ (fun d => wk ρ (fun k => match k with
    | .int n => ∃ j, ixN ds.length n = some j ∧ D.nx (ρ.set i (.ol (ds.set j d)))
    | _ => False) D.ex) D.ex
  | _ => False
theorem ds_setI {i : Nat} {w wk : PW} (ho : PE X a (tVar i)) (hk : DE T X W b wk) (h : DE T X W e w) (hs : swapsWithSole [.Subscript a b p] e pos.line X.env = pure false := by rfl) (hw : swappedStores [.Subscript a b p] e X.env = pure none := by rfl)
    (h1 : (assignEach [.Subscript a b p] X.env).map (·.2) = [assign (.Subscript a b p) X.env] := by rfl)
    (ha : ∀ v, assign (.Subscript a b p) X.env v = (do
      let ov ← holding [v] (eval a X.env)
      let iv ← holding [v, ov] (eval b X.env)
      standAt p
      holding [v, ov, iv] (setItem ov iv v)
      release [v, ov, iv] []) := by intro _; rfl) : DS T X W (.Assign [.Subscript a b p] e pos) (sSetI i wk w) :=
  ⟨ps_mono (ps_asg h.pe (pg_sub ho hk.pe set_list ha) hs hw h1) fun D σ H q => by
    obtain ⟨G, ρ, r, fa, q⟩ := q
    unfold sSetI at q
    split at q
    · rename_i ds hd
      refine ⟨G, ρ, r, h.mono _ _ _ _ _ (fun d hd' v H1 r1 a1 => ?_) (fun _ z => ex_out' z) q⟩
      obtain ⟨u, h1, b, vs, rfl, h3, h4, h5⟩ := r1.slot i _ hd
      refine ⟨_, h1, lift_intro hk.mono r1 (hk.mono _ _ _ _ _ (fun k hk' u H2 r2 e2 a2 => ?_) (fun _ z => ex_out' z) hd')⟩
      cases a2 with
      | int n =>
        obtain ⟨j, hj, q⟩ := hk'
        obtain ⟨v', h1', b', vs', e', h3', h4', h5'⟩ := r2.slot i _ hd
        rw [h1] at h1'
        cases h1'
        cases e'
        refine ⟨_, vs', n, j, rfl, rfl, h4', by rw [h5'.length]; exact hj, ?_⟩
        exact q σ _ G.O (r2.wr hd h1 h3' h4' (h5'.set (a1.ext e2) j) fun q hq z => fa q hq i _ hd rfl (by rw [z]; exact h1)) (fa.wr hd rfl)
      | _ => exact hk'.elim
    · exact q.elim, fun ρ D D' l q => by
    unfold sSetI at q ⊢
    split at q
    · exact h.mono _ _ _ _ _ (fun d hd => hk.mono _ _ _ _ _ (fun k hk' => by
        cases k <;> first | exact hk' | exact (let ⟨j, h1, h2⟩ := hk'; ⟨j, h1, l.nx _ h2⟩)) l.ex hd) l.ex q
    · exact q⟩
/-! ### what is ours is given up: from now on it is read only -/
theorem Rep.frz (r : Rep T K G ρ σ H) {i : Nat} {ds : List PyData} {a : Addr} {vs : List V} (hi : ρ[i]? = some (.ol ds)) (hv : σ[i]? = some (some (.ref a))) (h1 : H a = some (.lst vs)) (ha : Own T.dc G.O a) (hx : DaAll K (hide G.O H) vs ds) (hfl : ∀ q ∈ G.fl, q.1 ≠ a) :
    Rep T K ⟨G.Hb, G.O.filter (fun b => decide (b ≠ a)), G.fl⟩ (ρ.set i (.sh (.list ds))) σ H := by
  have mem : ∀ {b}, b ∈ G.O.filter (fun b => decide (b ≠ a)) ↔ b ∈ G.O ∧ b ≠ a := fun {b} => by rw [List.mem_filter, decide_eq_true_eq]
  have e : ExtN (hide G.O H) (hide (G.O.filter (fun b => decide (b ≠ a))) H) := ext_sub fun b hb => (mem.mp hb).1
  have hil : i < ρ.length := (List.getElem?_eq_some_iff.mp hi).1
  refine ⟨by rw [List.length_set]; exact r.len, fun j s hs => ?_, fun j k s t b hjk hj hk hs ht e1 e2 => ?_, r.tab, r.ext.trans e, fun b hb => r.dom b (mem.mp hb).1, fun q hq => ⟨mem.mpr ⟨(r.fly q hq).1, hfl q hq⟩, (r.fly q hq).2⟩,
    fun b hb => ⟨mem.mpr ⟨(r.dcs b hb).1, fun z => ha.2 (by rw [← z]; exact hb)⟩, (r.dcs b hb).2⟩⟩
  · by_cases z : i = j
    · subst z
      rw [List.getElem?_set_self hil] at hs
      cases hs
      exact ⟨_, hv, _, rfl, .lst (by rw [hide_out fun z => (mem.mp z).2 rfl]; exact h1) (hx.ext e)⟩
    · rw [List.getElem?_set_ne z] at hs
      obtain ⟨u, h2, h3⟩ := r.slot j s hs
      have ne : ∀ b, s.owned = true → u = some (.ref b) → b ≠ a := fun b hw eu z' => by
        rw [eu, z'] at h2
        exact r.sep i j _ s a z hi hs rfl hw hv h2
      refine ⟨u, h2, ?_⟩
      cases s with
      | un => trivial
      | sh d => obtain ⟨x, h4, h5⟩ := h3; exact ⟨x, h4, h5.ext e⟩
      | ol _ => obtain ⟨b, us, h4, h5, h6, h7⟩ := h3; exact ⟨b, us, h4, ⟨mem.mpr ⟨h5.1, ne b rfl h4⟩, h5.2⟩, h6, h7.ext e⟩
      | ok _ => obtain ⟨b, us, h4, h5, h6, h7, h8⟩ := h3; exact ⟨b, us, h4, ⟨mem.mpr ⟨h5.1, ne b rfl h4⟩, h5.2⟩, h6, h7, h8.ext e⟩
      | ot _ => obtain ⟨b, us, h4, h5, h6, h7, h8⟩ := h3; exact ⟨b, us, h4, ⟨mem.mpr ⟨h5.1, ne b rfl h4⟩, h5.2⟩, h6, h7, h8.ext e⟩
      | dice => exact h3
      | scr ns => obtain ⟨b, h4, h5⟩ := h3; exact ⟨b, h4, sqL_ext e h5⟩
  · have own : ∀ {l : Nat} {u : Sl}, (ρ.set i (.sh (.list ds)))[l]? = some u → u.owned = true → ρ[l]? = some u := fun {l u} hl hu => by
      by_cases z : i = l
      · subst z; rw [List.getElem?_set_self hil] at hl; cases hl; cases hu
      · rw [List.getElem?_set_ne z] at hl; exact hl
    exact r.sep j k s t b hjk (own hj hs) (own hk ht) hs ht e1 e2
def sFrz (i : Nat) (v : SW) : SW := fun ρ D => match ρ[i]? with
  | some (.ol ds) => v (ρ.set i (.sh (.list ds))) D
  | some (.sh _) => v ρ D
  | _ => False
theorem dss_frz {sts : List Stmt} (i : Nat) {v : SW} (h : DSs T X W sts v) : DSs T X W sts (sFrz i v) :=
  ⟨pss_mono h.ps fun D σ H q => by
    obtain ⟨G, ρ, r, fa, q⟩ := q
    unfold sFrz at q
    split at q
    · rename_i ds hd
      obtain ⟨v', h1, b, vs, rfl, h3, h4, h5⟩ := r.slot i _ hd
      refine ⟨⟨G.Hb, G.O.filter (fun c => decide (c ≠ b)), G.fl⟩, _, r.frz hd h1 h4 h3 h5 fun q hq z => fa q hq i _ hd rfl (by rw [z]; exact h1), fa.wr hd rfl, q⟩
    · exact ⟨G, ρ, r, fa, q⟩
    · exact q.elim, fun ρ D D' l q => by
    unfold sFrz at q ⊢
    split at q
    · exact h.mono _ _ _ l q
    · exact h.mono _ _ _ l q
    · exact q⟩
/-! ### loops -/
def goFor (g : GD) (b : SW) (D : PEn) : List PyData → En → Prop
  | [], ρ => D.nx ρ
  | d :: ds, ρ => g d ρ fun ρ2 => b ρ2 { D with nx := goFor g b D ds, ct := goFor g b D ds, bk := D.nx }
def sFor (wi : PWs) (g : GD) (b : SW) : SW := fun ρ D => wi ρ (fun ds => goFor g b D ds ρ) D.ex
theorem goFor_mono {g : GD} {b : SW} (mg : ∀ d ρ Q Q', (∀ r, Q r → Q' r) → g d ρ Q → g d ρ Q') (mb : MonoS b) {D D' : PEn} (l : PEn.Le D D') : ∀ (ds : List PyData) (ρ : En), goFor g b D ds ρ → goFor g b D' ds ρ
  | [], ρ, h => l.nx _ h
  | d :: ds, ρ, h => mg _ _ _ _ (fun ρ2 h2 => mb ρ2 { D with nx := goFor g b D ds, ct := goFor g b D ds, bk := D.nx } _ ⟨goFor_mono mg mb l ds, l.rt, l.nx, goFor_mono mg mb l ds, l.ex, l.rp⟩ h2) h
theorem ends_base {Hb : Hp} {O : List Addr} {fl : List (Addr × HO)} (D : Ends) (e : ExtN G.Hb Hb) (hfl : G.fl = fl) : PEn.Le (endS T K W G D) (endS T K W ⟨Hb, O, fl⟩ D) := by
  subst hfl
  exact ⟨fun ρ h σ' H' O' r f => h σ' H' O' (r.unbase' _ e) f, fun d h v ρ' σ' H' O' r a => h v ρ' σ' H' O' (r.unbase' _ e) a, fun ρ h σ' H' O' r f => h σ' H' O' (r.unbase' _ e) f, fun ρ h σ' H' O' r f => h σ' H' O' (r.unbase' _ e) f,
    fun x h ρ' σ' H' O' cls dd r q => h ρ' σ' H' O' cls dd (r.unbase' _ e) q, fun d h v ρ' σ' H' O' r p a => h v ρ' σ' H' O' (r.unbase' _ e) p a⟩
theorem ds_for {tg iter : Expr} {body : List Stmt} {wi : PWs} {g : GD} {bw : SW} {sl : List Nat} (hp : PassesOwn (model X.prog X.w) X.A X.env X.xe) (hc : X.calm = true) (hi : DI T X W tg iter wi) (hg : DG T X sl tg g) (hb : DSs T X W body bw)
    (hs : ∀ x, foldedSetIterable iter X.env x = pure x := by intro _; rfl) : DS T X W (.For tg iter body [] pos) (sFor wi g bw) :=
  ⟨ps_mono (ps_for hp hc hi.pi hg.pg hb.ps hs) fun D σ H q => by
    obtain ⟨G, ρ, r, fa, q⟩ := q
    refine ⟨G, ρ, r, hi.mono _ _ _ _ _ (fun ds hds J H1 r1 wk => ?_) (fun _ z => ex_out' z) q⟩
    refine ⟨fun i m σ' H' => m = ds.length - i ∧ ∃ ρ' O', Rep T X.K ⟨hide G.O H1, O', G.fl⟩ ρ' σ' H' ∧ FlApt G.fl ρ' σ' ∧ goFor g bw (endS T X.K W G D) (ds.drop i) ρ', ⟨_, rfl, ρ, G.O, r1.rebase, fa, hds⟩, fun i m σ' H' hW => ?_⟩
    obtain ⟨rfl, ρ', O', r2, fa2, hgo⟩ := hW
    have dm : ∀ a ∈ O', H' a ≠ none := fun a ha z => by obtain ⟨o, e, _⟩ := r2.dom a ha; rw [z] at e; cases e
    obtain ⟨wk1, wk2⟩ := wk O' H' r2.ext dm
    cases hd : ds.drop i with
    | nil =>
      rw [hd] at hgo
      exact .inl ⟨wk2 i (List.drop_eq_nil_iff.mp hd), hgo σ' H' O' (r2.unbase' _ r1.ext) fa2⟩
    | cons d rest =>
      have hi' : i < ds.length := by
        by_cases z : i < ds.length
        · exact z
        · rw [List.drop_eq_nil_of_le (by omega)] at hd; cases hd
      have hdd := List.drop_eq_getElem_cons hi'
      rw [hd] at hdd
      have hdi : ds[i]? = some d := by rw [List.getElem?_eq_getElem hi', ← (List.cons.inj hdd).1]
      have hrest : ds.drop (i + 1) = rest := (List.cons.inj hdd).2.symm
      obtain ⟨jgo, yld⟩ := wk1 i d hdi
      rw [hd] at hgo
      refine .inr ⟨jgo, fun σ'' H'' => ∃ ρ'' O'', Rep T X.K ⟨hide G.O H1, O'', G.fl⟩ ρ'' σ'' H'' ∧ FlApt G.fl ρ'' σ'' ∧ goFor g bw (endS T X.K W G D) rest ρ'', fun σ'' H'' h => ⟨ds.length - (i + 1), by omega, rfl, by rw [hrest]; exact h⟩, fun x H3 hy => ?_⟩
      obtain ⟨al, hx⟩ := yld x H3 hy
      have r3 := r2.alloc al
      refine ⟨_, ρ', d, r3, hx, hg.mono _ _ _ _ (fun ρ2 h2 σ2 r4 hw => ?_) (hg.keep _ _ _ hgo)⟩
      refine ⟨_, ρ2, r4, fa2.asg h2.2.1 h2.2.2 hw, hb.mono _ _ _ ?_ h2.1⟩
      have eb := ends_base (T := T) (K := X.K) (W := W) (O := O') D r1.ext (G := G) rfl
      exact ⟨fun ρ3 h3 σ3 H3 O3 r5 f5 => ⟨ρ3, O3, r5, f5, h3⟩, eb.rt, eb.nx, fun ρ3 h3 σ3 H3 O3 r5 f5 => ⟨ρ3, O3, r5, f5, h3⟩, eb.ex, eb.rp⟩,
   fun ρ D D' l q => hi.mono _ _ _ _ _ (fun ds h => goFor_mono hg.mono hb.mono l ds ρ h) l.ex q⟩
def goWh (c : PWB) (b : SW) (D : PEn) : Nat → En → Prop
  | 0, _ => False
  | n + 1, ρ => c ρ (fun k => if k = true then b ρ { D with nx := goWh c b D n, ct := goWh c b D n, bk := D.nx } else D.nx ρ) D.ex
def sWh (c : PWB) (b : SW) : SW := fun ρ D => ∃ n, goWh c b D n ρ
theorem goWh_mono {c : PWB} {b : SW} (mc : Mono c) (mb : MonoS b) {D D' : PEn} (l : PEn.Le D D') : ∀ (n : Nat) (ρ : En), goWh c b D n ρ → goWh c b D' n ρ
  | 0, _, h => h
  | n + 1, ρ, h => mc _ _ _ _ _ (fun k hk => by
      by_cases z : k = true
      · rw [if_pos z] at hk ⊢
        exact mb _ { D with nx := goWh c b D n, ct := goWh c b D n, bk := D.nx } _ ⟨goWh_mono mc mb l n, l.rt, l.nx, goWh_mono mc mb l n, l.ex, l.rp⟩ hk
      · rw [if_neg z] at hk ⊢
        exact l.nx _ hk) l.ex h
theorem ds_while {body : List Stmt} {wc : PWB} {bw : SW} (hp : PassesOwn (model X.prog X.w) X.A X.env X.xe) (hc : DT T X W c wc) (hb : DSs T X W body bw) : DS T X W (.While c body [] pos) (sWh wc bw) :=
  ⟨ps_mono (ps_while hp hc.pt hb.ps) fun D σ H q => by
    obtain ⟨G, ρ, r, fa, n, q⟩ := q
    refine ⟨fun m σ' H' => ∃ ρ' O', Rep T X.K ⟨G.Hb, O', G.fl⟩ ρ' σ' H' ∧ FlApt G.fl ρ' σ' ∧ goWh wc bw (endS T X.K W G D) m ρ', ⟨n, ρ, G.O, r, fa, q⟩, fun m σ' H' hW => ?_⟩
    obtain ⟨ρ', O', r2, fa2, hgo⟩ := hW
    cases m with
    | zero => exact hgo.elim
    | succ m =>
      refine ⟨_, ρ', r2, hc.mono _ _ _ _ _ (fun k hk H1 r3 => ?_) (fun _ z => ex_out z) hgo⟩
      by_cases z : k = true
      · rw [if_pos z] at hk ⊢
        refine ⟨fun σ'' H'' => ∃ ρ'' O'', Rep T X.K ⟨G.Hb, O'', G.fl⟩ ρ'' σ'' H'' ∧ FlApt G.fl ρ'' σ'' ∧ goWh wc bw (endS T X.K W G D) m ρ'', fun σ'' H'' h => ⟨m, Nat.lt_succ_self m, h⟩, ?_⟩
        refine ⟨_, ρ', r3, fa2, hb.mono _ _ _ ?_ hk⟩
        exact ⟨fun ρ3 h3 σ3 H3 O3 r5 f5 => ⟨ρ3, O3, r5, f5, h3⟩, fun _ h => h, fun _ h => h, fun ρ3 h3 σ3 H3 O3 r5 f5 => ⟨ρ3, O3, r5, f5, h3⟩, fun _ h => h, fun _ h => h⟩
      · rw [if_neg z] at hk ⊢
        exact hk σ' H1 O' r3 fa2,
   fun ρ D D' l ⟨n, q⟩ => ⟨n, goWh_mono hc.mono hb.mono l n ρ q⟩⟩
def sBrk : SW := fun ρ D => D.bk ρ
def sCnt : SW := fun ρ D => D.ct ρ
theorem ds_break : DS T X W (.Break pos) sBrk := ⟨ps_mono ps_break fun D σ H q => by
  obtain ⟨G, ρ, r, fa, q⟩ := q
  exact q σ H G.O r fa, fun _ _ _ l h => l.bk _ h⟩
theorem ds_continue : DS T X W (.Continue pos) sCnt := ⟨ps_mono ps_continue fun D σ H q => by
  obtain ⟨G, ρ, r, fa, q⟩ := q
  exact q σ H G.O r fa, fun _ _ _ l h => l.ct _ h⟩
/-! ### a, b = e1, e2 (both shared) -/
def sPar (i j : Nat) (w : PWs) : SW := fun ρ D => w ρ (fun ds => match ds with | [x, y] => D.nx ((ρ.set i (.sh x)).set j (.sh y)) | _ => False) D.ex
theorem ds_par {i j : Nat} {x y : Str} {px py pt : Pos} {kt k2 pt2} {w : PWs} (hc : X.calm = true) (hN : X.N.Nodup) (hi : X.N[i]? = some x) (hj : X.N[j]? = some y) (hij : i ≠ j)
    (hx : X.env.scope.names.lookup x = some .local) (hy : X.env.scope.names.lookup y = some .local) (ha : DA T X W [a, b] w)
    (hw : swappedStores [.Tuple [.Name x px, .Name y py] kt pt] (.Tuple [a, b] k2 pt2) X.env = pure (some [x, y]))
    (hs : swapsWithSole [.Tuple [.Name x px, .Name y py] kt pt] (.Tuple [a, b] k2 pt2) pos.line X.env = pure false := by rfl) : DS T X W (.Assign [.Tuple [.Name x px, .Name y py] kt pt] (.Tuple [a, b] k2 pt2) pos) (sPar i j w) :=
  ⟨ps_mono (ps_par hc hN hi hj hij hx hy ha.pa hw hs) fun D σ H q => by
    obtain ⟨G, ρ, r, fa, q⟩ := q
    refine ⟨G, ρ, r, ha.mono _ _ _ _ _ (fun ds hd vs H1 r1 a1 => ?_) (fun _ z => ex_out' z) q⟩
    cases a1 with
    | nil => exact hd.elim
    | cons a1 a2 => cases a2 with
      | nil => exact hd.elim
      | cons a2 a3 => cases a3 with
        | cons _ _ => exact hd.elim
        | nil => exact ⟨_, _, rfl, hd _ _ G.O ((r1.setSh a1).setSh a2) fa.setSh.setSh⟩,
   fun ρ D D' l q => ha.mono _ _ _ _ _ (fun ds hd => by
    revert hd
    cases ds with
    | nil => exact fun z => z
    | cons _ t => cases t with
      | nil => exact fun z => z
      | cons _ t => cases t with
        | nil => exact l.nx _
        | cons _ _ => exact fun z => z) l.ex q⟩
end
end PL
set_option Elab.async false
set_option linter.all false
set_option maxRecDepth 100000
set_option maxHeartbeats 2000000
namespace PL
open PySem PySem.Spec PyProof.Rows L2
open LamX (ExtN Tabs TabS)
/-! ### a def, its code object's place told -/
structure FunC (K : PySem.W.Frag) (x : Str) (st : Stmt) (f c : Addr) (fd : FuncData) : Prop where
  ex : ∃ (oc : Value) (od : Option Addr) (kV doc pm : Value) (an : Option Addr) (ct : Value) (osl : Array (Option Value)),
    fd = PySem.W.fnOf x x (defArgs st) (defBody st) (defScope st) .none kV doc pm an (.ref c) ct ∧ K.lookup f = some ⟨oc, od, .func fd, osl⟩ ∧ PySem.W.codeIn K (.ref c) x = true
  kp : PySem.W.keepIn K (.ref f) = true
section
variable {P : Program} {w : World} {K : PySem.W.Frag} {mg : Str → Option Value} {base : Heap} {x : Str} {st : Stmt} {f c : Addr} {fd : FuncData} {N ps : List Str} {k : Nat} {sp : Sp}
theorem FunC.okX (F : FunC K x st f c fd) (S : FnScope N ps (defScope st)) (len : ∀ vs H Q E, sp vs H Q E → vs.length = ps.length)
    (hbody : ∀ (A : Around) (outer : List Env) (s : Shared) (H : Hp) (vs : List V) (Q : VK) (E : XK), Room k (A.deeper (envOfC x (defScope st) s.heap.objs.size f (.ref c))) → sp vs H Q E →
      ∃ t, PSs (cxOf (L2.CX P w) P w K mg base N x (defScope st) f (.ref c) A outer s H E) (defBody st) t ∧ t { nx := fun _ H' => Q .non H', rt := Q } (start N vs) H) : FnOk P w K mg base (L2.CX P w) (k + 1) f fd ps sp := by
  obtain ⟨oc, od, kV, doc, pm, an, ct, osl, rfl, lk, hcd⟩ := F.ex
  exact fn_of lk hcd S len fun A outer s H vs Q E hr hsp => hbody A outer s H vs Q E hr hsp
theorem FunC.binds (F : FunC K x st f c fd)
    (h : ∀ (kV doc pm : Value) (an : Option Addr) (cdv ct : Value) (us : List Value), us.length = ps.length → bindArgs (PySem.W.fnOf x x (defArgs st) (defBody st) (defScope st) .none kV doc pm an cdv ct) ⟨us, []⟩ = pure (ps.zip us)) : Binds K fd ps [] := by
  obtain ⟨oc, od, kV, doc, pm, an, ct, osl, rfl, lk, hcd⟩ := F.ex
  exact .all (h kV doc pm an (.ref c) ct)
end
/-! ### the contract of a def -/
def flOf (D0 O : List Addr) (H : Hp) : List (Addr × HO) := O.filterMap fun a => if a ∈ D0 then none else (H a).map fun o => (a, o)
theorem mem_flOf {D0 O : List Addr} {H : Hp} {a : Addr} {o : HO} : (a, o) ∈ flOf D0 O H ↔ a ∈ O ∧ a ∉ D0 ∧ H a = some o := by
  unfold flOf
  rw [List.mem_filterMap]
  constructor
  · rintro ⟨b, hb, e⟩
    by_cases z : b ∈ D0
    · rw [if_pos z] at e; cases e
    · rw [if_neg z] at e
      cases h : H b with
      | none => rw [h] at e; cases e
      | some o' => rw [h] at e; cases e; exact ⟨hb, z, h⟩
  · rintro ⟨h1, h2, h3⟩
    exact ⟨a, h1, by rw [if_neg h2, h3]; rfl⟩
structure Back (T : Tb) (O : List Addr) (H H' : Hp) : Prop where
  ext : ExtN (hide O H) (hide O H')
  keep : ∀ a ∈ O, a ∉ T.dc → H' a = H a
  dc : ∀ a ∈ T.dc, ∃ x y z, H' a = some (.lst [.int x, .int y, .int z])
  tab : TOk T H'
/-- a contract: of the arguments' slots -/
def spD (T : Tb) (K : PySem.W.Frag) (n : Nat) (c : PW) : Sp := fun vs H Q E => ∃ (O : List Addr) (ρ : En), ρ.length = n ∧ Rep T K ⟨hide O H, O, flOf T.dc O H⟩ ρ (vs.map some) H ∧ (∀ s ∈ ρ, s.owned = false) ∧
  c ρ (fun d => ∀ v H', Back T O H H' → Da K (hide O H') v d → Q v H') (fun x => ∀ H' cls dd, Back T O H H' → ExR K x cls dd (hide O H') → E cls dd H')
def cOf (N : List Str) (w : SW) : PW := fun ρ Q E => w (ρ ++ List.replicate (N.length - ρ.length) .un) { nx := fun _ => Q .none, rt := Q, ex := E }
theorem mono_cOf {N : List Str} {w : SW} (m : MonoS w) : Mono (cOf N w) := fun ρ Q Q' E E' hq he h => m _ { nx := fun _ => Q .none, rt := Q, ex := E } _ ⟨fun _ => hq _, hq, fun _ z => z, fun _ z => z, he, fun _ z => z⟩ h
section
variable {T : Tb} {X : Cx} {W : WX} {pos p pos' apos : Pos} {e a b : Expr} {es : List Expr} {st : Stmt} {rest : List Stmt} {K : PySem.W.Frag} {G G2 : Gh} {ρ ρ2 : En} {σ σ2 : L2.St} {H H' : Hp} {D : Ends}
theorem Rep.back {O' : List Addr} {O : List Addr} (r : Rep T K ⟨hide O H, O', flOf T.dc O H⟩ ρ σ H') (dom : ∀ a ∈ O, ∃ o, H a = some o ∧ ∀ ps, o ≠ .tbl ps) : Back T O H H' ∧ ExtN (hide O' H') (hide O H') := by
  have sub : ∀ b ∈ O, b ∈ O' := fun b hb => by
    by_cases z : b ∈ T.dc
    · exact (r.dcs b z).1
    · obtain ⟨o, ho, _⟩ := dom b hb
      exact (r.fly (b, o) (mem_flOf.mpr ⟨hb, z, ho⟩)).1
  have e := ext_sub (H := H') sub
  refine ⟨⟨r.ext.trans e, fun a ha nd => ?_, fun a ha => (r.dcs a ha).2.1, r.tab⟩, e⟩
  obtain ⟨o, ho, _⟩ := dom a ha
  rw [ho]
  exact (r.fly (a, o) (mem_flOf.mpr ⟨ha, nd, ho⟩)).2
theorem exR_ext {x : Exn} {cls : Value} {dd : Option Addr} (e : ExtN H H') (h : ExR K x cls dd H) : ExR K x cls dd H' := by
  obtain ⟨h1, h2⟩ := h
  refine ⟨h1, ?_⟩
  cases hx : x.fld with
  | none => rw [hx] at h2; exact h2
  | some q =>
    rw [hx] at h2
    obtain ⟨a, v, ha, hb, hc⟩ := h2
    exact ⟨a, v, ha, e _ _ hb (fun ps z => by cases z), hc.ext e⟩
theorem start_eq {N : List Str} {vs : List V} {ρ : En} (h : ρ.length = vs.length) : L2.start N vs = vs.map some ++ List.replicate (N.length - ρ.length) none := by
  unfold L2.start
  rw [h]
theorem Rep.more (r : Rep T K G ρ σ H) (n : Nat) : Rep T K G (ρ ++ List.replicate n .un) (σ ++ List.replicate n none) H where
  len := by rw [List.length_append, List.length_append, r.len, List.length_replicate, List.length_replicate]
  slot i s hs := by
    by_cases z : i < ρ.length
    · rw [List.getElem?_append_left z] at hs
      rw [List.getElem?_append_left (by rw [← r.len]; exact z)]
      exact r.slot i s hs
    · rw [List.getElem?_append_right (by omega)] at hs
      have hl : i - ρ.length < n := by
        have := (List.getElem?_eq_some_iff.mp hs).1
        rw [List.length_replicate] at this
        exact this
      rw [List.getElem?_replicate, if_pos hl] at hs
      cases hs
      rw [List.getElem?_append_right (by rw [← r.len]; omega), ← r.len, List.getElem?_replicate, if_pos hl]
      exact ⟨none, rfl, trivial⟩
  sep i j s t a hij hi hj hs ht e1 e2 := by
    have low : ∀ {l : Nat} {u : Sl}, (ρ ++ List.replicate n .un)[l]? = some u → u.owned = true → l < ρ.length := fun {l u} hl hu => by
      by_cases z : l < ρ.length
      · exact z
      · rw [List.getElem?_append_right (by omega), List.getElem?_replicate] at hl
        split at hl
        · cases hl; cases hu
        · cases hl
    have l1 := low hi hs
    have l2 := low hj ht
    rw [List.getElem?_append_left l1] at hi
    rw [List.getElem?_append_left l2] at hj
    rw [List.getElem?_append_left (by rw [← r.len]; exact l1)] at e1
    rw [List.getElem?_append_left (by rw [← r.len]; exact l2)] at e2
    exact r.sep i j s t a hij hi hj hs ht e1 e2
  tab := r.tab
  ext := r.ext
  dom := r.dom
  fly := r.fly
  dcs := r.dcs
/-- THE RULE for a def -/
theorem fn_okD {P : Program} {w : World} {mg : Str → Option Value} {base : Heap} {x : Str} {st : Stmt} {f c : Addr} {fd : FuncData} {N ps : List Str} {k : Nat} {u : SW} (F : FunC K x st f c fd) (S : FnScope N ps (defScope st))
    (hb : ∀ (A : Around) (outer : List Env) (s : Shared) (H : Hp) (E : XK), Room k (A.deeper (envOfC x (defScope st) s.heap.objs.size f (.ref c))) →
      DSs T (cxOf (L2.CX P w) P w K mg base N x (defScope st) f (.ref c) A outer s H E) (fun cls d _ H => E cls d H) (defBody st) u) : FnOk P w K mg base (L2.CX P w) (k + 1) f fd ps (spD T K ps.length (cOf N u)) := by
  refine F.okX S (fun vs H Q E h => ?_) (fun A outer s H vs Q E hr h => ⟨_, (hb A outer s H E hr).ps, ?_⟩)
  · obtain ⟨O, ρ, h1, h2, _⟩ := h
    have := h2.len
    rw [List.length_map] at this
    omega
  · obtain ⟨O, ρ, h1, r, no, q⟩ := h
    have hl : ρ.length = vs.length := by have := r.len; rw [List.length_map] at this; exact this
    refine ⟨⟨hide O H, O, flOf T.dc O H⟩, ρ ++ List.replicate (N.length - ρ.length) .un, ?_, fun q hq j t hj ht e => ?_, ?_⟩
    · rw [start_eq hl]
      exact r.more _
    · exfalso
      by_cases z : j < ρ.length
      · rw [List.getElem?_append_left z] at hj
        rw [no t (List.mem_of_getElem? hj)] at ht
        cases ht
      · rw [List.getElem?_append_right (by omega), List.getElem?_replicate] at hj
        split at hj
        · cases hj; cases ht
        · cases hj
    · refine (hb A outer s H E hr).mono _ { nx := fun _ => ∀ v H', Back T O H H' → Da K (hide O H') v .none → Q v H', rt := fun d => ∀ v H', Back T O H H' → Da K (hide O H') v d → Q v H', ex := fun x => ∀ H' cls dd, Back T O H H' → ExR K x cls dd (hide O H') → E cls dd H' } _ ⟨fun ρ' h σ' H' O' r' _ => ?_, fun d h v ρ' σ' H' O' r' a => ?_, fun _ z => z.elim, fun _ z => z.elim, fun x h ρ' σ' H' O' cls dd r' q => ?_, fun _ z => z.elim⟩ q
      · exact h .non H' (r'.back r.dom).1 .non
      · obtain ⟨b1, b2⟩ := r'.back r.dom
        exact h v H' b1 (a.ext b2)
      · obtain ⟨b1, b2⟩ := r'.back r.dom
        exact h H' cls dd b1 (exR_ext b2 q)
theorem fn_ok0 {P : Program} {w : World} {mg : Str → Option Value} {base : Heap} {f : Addr} {fd : FuncData} {ps : List Str} {k n : Nat} : FnOk P w K mg base (L2.CX P w) k f fd ps (spD T K n fun _ _ _ => False) :=
  ⟨fun vs H Q E h => by obtain ⟨_, _, _, _, _, z⟩ := h; exact z.elim, fun A outer s H args us vs Q E hr e0 hb r h => by obtain ⟨_, _, _, _, _, z⟩ := h; exact z.elim⟩
/-! ### its call -/
def ArgOk (T : Tb) (K : PySem.W.Frag) (H : Hp) : V → Sl → Prop
  | v, .sh d => Da K H v d
  | v, .dice => ∃ a, v = .ref a ∧ a ∈ T.dc
  | v, .scr ns => ∃ a, v = .ref a ∧ SqL K H a (ns.map V.int)
  | _, _ => False
inductive ArgsOk (T : Tb) (K : PySem.W.Frag) (H : Hp) : List V → List Sl → Prop
  | nil : ArgsOk T K H [] []
  | cons {v : V} {vs : List V} {s : Sl} {ss : List Sl} : ArgOk T K H v s → ArgsOk T K H vs ss → ArgsOk T K H (v :: vs) (s :: ss)
abbrev PWp := En → (List Sl → Prop) → (Exn → Prop) → Prop
theorem ArgOk.ext {v : V} {s : Sl} (e : ExtN H H') (h : ArgOk T K H v s) : ArgOk T K H' v s := by
  cases s with
  | sh d => exact Da.ext e h
  | dice => exact h
  | scr ns => obtain ⟨a, h1, h2⟩ := h; exact ⟨a, h1, sqL_ext e h2⟩
  | _ => exact h.elim
theorem ArgOk.own {v : V} {s : Sl} (h : ArgOk T K H v s) : s.owned = false := by
  cases s <;> first | rfl | exact False.elim h
theorem ArgsOk.ext {vs : List V} {ss : List Sl} (e : ExtN H H') (h : ArgsOk T K H vs ss) : ArgsOk T K H' vs ss := by
  induction h with
  | nil => exact .nil
  | cons h _ ih => exact .cons (h.ext e) ih
def liftP (T : Tb) (K : PySem.W.Frag) (W : WX) (w : PWp) : TA := fun σ H Q => ∃ G ρ, Rep T K G ρ σ H ∧ w ρ (fun ss => ∀ vs H', Rep T K G ρ σ H' → ArgsOk T K (hide G.O H') vs ss → Q vs H') (exOut T K W G ρ σ)
structure DP (T : Tb) (X : Cx) (W : WX) (es : List Expr) (w : PWp) : Prop where
  pa : PA X es (liftP T X.K W w)
  mono : Mono w
theorem pa_mono {X : Cx} {e : List Expr} {t t' : TA} (h : PA X e t) (i : ∀ σ H Q, t' σ H Q → t σ H Q) : PA X e t' := ⟨fun pos pins s σ H Q I q => h.run pos pins s σ H Q I (i _ _ _ q)⟩
def wpNil : PWp := fun _ Q _ => Q []
def wpSh (w : PW) (ws : PWp) : PWp := fun ρ Q E => w ρ (fun d => ws ρ (fun ss => Q (.sh d :: ss)) E) E
def wpDc (i : Nat) (ws : PWp) : PWp := fun ρ Q E => ρ[i]? = some .dice ∧ ws ρ (fun ss => Q (.dice :: ss)) E
theorem dp_nil : DP T X W [] wpNil := ⟨pa_mono pa_nil fun σ H Q q => by
  obtain ⟨G, ρ, r, q⟩ := q
  exact q [] H r .nil, fun _ _ _ _ _ hq _ h => hq _ h⟩
theorem dp_sh {w : PW} {ws : PWp} (h : DE T X W e w) (hr : DP T X W es ws) (hs : starEach (e :: es) X.env = (false, eval e X.env) :: starEach es X.env := by rfl) : DP T X W (e :: es) (wpSh w ws) :=
  ⟨pa_mono (pa_cons h.pe hr.pa hs) fun σ H Q q => by
    obtain ⟨G, ρ, r, q⟩ := q
    refine lift_intro h.mono r (h.mono _ _ _ _ _ (fun d hd v H1 r1 e1 a1 => ?_) (fun _ z => z) q)
    refine ⟨⟨hide G.O H1, G.O, G.fl⟩, ρ, r1.rebase, hr.mono _ _ _ _ _ (fun ss hss vs H2 r2 a2 => ?_) (fun x hx H' cls dd r' q => hx H' cls dd (r'.unbase r1.ext) q) hd⟩
    exact hss _ _ (r2.unbase r1.ext) (.cons (Da.ext r2.ext a1) a2),
   fun ρ Q Q' E E' hq he q => h.mono _ _ _ _ _ (fun d hd => hr.mono _ _ _ _ _ (fun ss hss => hq _ hss) he hd) he q⟩
theorem dp_dc {i : Nat} {ws : PWp} (h : PE X e (tVar i)) (hr : DP T X W es ws) (hs : starEach (e :: es) X.env = (false, eval e X.env) :: starEach es X.env := by rfl) : DP T X W (e :: es) (wpDc i ws) :=
  ⟨pa_mono (pa_cons h hr.pa hs) fun σ H Q q => by
    obtain ⟨G, ρ, r, hd, q⟩ := q
    obtain ⟨v, h1, a, rfl, ha⟩ := r.slot i _ hd
    refine ⟨_, h1, G, ρ, r, hr.mono _ _ _ _ _ (fun ss hss vs H2 r2 a2 => ?_) (fun x z => z) q⟩
    exact hss _ _ r2 (.cons ⟨a, rfl, ha⟩ a2),
   fun ρ Q Q' E E' hq he q => ⟨q.1, hr.mono _ _ _ _ _ (fun ss hss => hq _ hss) he q.2⟩⟩
def wpSc (i : Nat) (ws : PWp) : PWp := fun ρ Q E => ∃ ns, ρ[i]? = some (.scr ns) ∧ ws ρ (fun ss => Q (.scr ns :: ss)) E
theorem dp_sc {i : Nat} {ws : PWp} (h : PE X e (tVar i)) (hr : DP T X W es ws) (hs : starEach (e :: es) X.env = (false, eval e X.env) :: starEach es X.env := by rfl) : DP T X W (e :: es) (wpSc i ws) :=
  ⟨pa_mono (pa_cons h hr.pa hs) fun σ H Q q => by
    obtain ⟨G, ρ, r, ns, hd, q⟩ := q
    obtain ⟨v, h1, a, rfl, ha⟩ := r.slot i _ hd
    refine ⟨_, h1, ⟨hide G.O H, G.O, G.fl⟩, ρ, r.rebase, hr.mono _ _ _ _ _ (fun ss hss vs H2 r2 a2 => ?_) (fun x hx H' cls dd r' q => hx H' cls dd (r'.unbase r.ext) q) q⟩
    exact hss _ _ (r2.unbase r.ext) (.cons ⟨a, rfl, sqL_ext r2.ext ha⟩ a2),
   fun ρ Q Q' E E' hq he ⟨ns, q1, q2⟩ => ⟨ns, q1, hr.mono _ _ _ _ _ (fun ss hss => hq _ hss) he q2⟩⟩
/-- script[:e] -/
def wScr (i : Nat) (wh : PWo) : PW := fun ρ Q E => ∃ ns, ρ[i]? = some (.scr ns) ∧ wh ρ (fun h => Q (.list ((cutD (ns.map .int) none h)))) E
theorem df_scr {i : Nat} {hi : Option Expr} {p2 : Pos} {wh : PWo} (h : PE X e (tVar i)) (hh : DO T X W hi wh) : DF T X W (.Subscript e (.Slice none hi none p2) pos) (wScr i wh) := by
  obtain ⟨⟨th, ph, qh⟩, mh⟩ := hh
  refine ⟨pe_mono (pe_slice sl_list h po_none ph) fun σ H Q q => ?_, fun ρ Q Q' E E' hq he ⟨ns, q1, q2⟩ => ⟨ns, q1, mh _ _ _ _ _ (fun _ z => hq _ z) he q2⟩⟩
  obtain ⟨G, ρ, r, ns, hd, q⟩ := q
  obtain ⟨v, h1, a, rfl, ha⟩ := r.slot i _ hd
  refine ⟨_, h1, qh ⟨hide G.O H, G.O, G.fl⟩ ρ σ H _ r.rebase (mh _ _ _ _ _ (fun o ho H' r' => ?_) (fun x hx H' cls dd r' q => hx H' cls dd (r'.unbase r.ext) q) q)⟩
  have ha' : SqL X.K H' a (ns.map V.int) := by
    rcases sqL_ext r'.ext ha with z | z
    · exact .inl (z.elim (fun z => .inl (hide_some z).2) fun ⟨ob, z⟩ => .inr ⟨ob, (hide_some z).2⟩)
    · exact .inr z
  refine ⟨a, _, rfl, ha', fun p hp => ?_⟩
  obtain ⟨r2, na, ap, h1, h2⟩ := (r'.unbase r.ext).newL hp (cut_da (daAll_ints ns) none o)
  exact ho p _ _ _ rfl r2 na ap h1 h2
def wCall (n : Nat) (c : PW) (ws : PWp) : PW := fun ρ Q E => ws ρ (fun ss => ss.length = n ∧ c ss Q E) E
theorem args_rep {vs : List V} {ss : List Sl} (r : Rep T K G ρ σ H) (h : ArgsOk T K (hide G.O H) vs ss) : Rep T K ⟨hide G.O H, G.O, flOf T.dc G.O H⟩ ss (vs.map some) H ∧ ∀ s ∈ ss, s.owned = false := by
  have no : ∀ s ∈ ss, s.owned = false := by
    induction h with
    | nil => exact fun s hs => by cases hs
    | cons h _ ih =>
      intro s hs
      rcases List.mem_cons.mp hs with z | z
      · rw [z]
        exact h.own
      · exact ih s z
  have len : ss.length = vs.length := by
    clear no
    induction h with
    | nil => rfl
    | cons _ _ ih => rw [List.length_cons, List.length_cons, ih]
  have at_ : ∀ (i : Nat) (s : Sl), ss[i]? = some s → ∃ v, vs[i]? = some v ∧ ArgOk T K (hide G.O H) v s := by
    clear no len
    induction h with
    | nil => intro i s hs; simp at hs
    | cons h _ ih =>
      intro i s hs
      cases i with
      | zero => simp at hs; subst hs; exact ⟨_, rfl, h⟩
      | succ i => simpa using ih i s (by simpa using hs)
  refine ⟨⟨by rw [List.length_map]; exact len, fun i s hs => ?_, fun i j s t a hij hi hj hs ht e1 e2 => ?_, r.tab, ExtN.refl _, r.dom, fun p hp => ?_, fun a ha => ⟨(r.dcs a ha).1, (r.dcs a ha).2.1, fun q hq z => ?_⟩⟩, no⟩
  · obtain ⟨v, hv, ho⟩ := at_ i s hs
    refine ⟨some v, by rw [List.getElem?_map, hv]; rfl, ?_⟩
    cases s with
    | sh d => exact ⟨v, rfl, ho⟩
    | dice => obtain ⟨a, e, ha⟩ := ho; exact ⟨a, by rw [e], ha⟩
    | scr ns => obtain ⟨a, e, ha⟩ := ho; exact ⟨a, by rw [e], ha⟩
    | _ => exact ho.elim
  · rw [no s (List.mem_of_getElem? hi)] at hs
    cases hs
  · obtain ⟨a, o⟩ := p
    obtain ⟨h1, h2, h3⟩ := mem_flOf.mp hp
    exact ⟨h1, h3⟩
  · obtain ⟨b, o⟩ := q
    obtain ⟨h1, h2, h3⟩ := mem_flOf.mp hq
    exact h2 (by rw [show b = a from z]; exact ha)
theorem Rep.forth (r : Rep T K G ρ σ H) (b : Back T G.O H H') : Rep T K G ρ σ H' := r.stepD b.ext b.keep b.dc b.tab
theorem de_call {k n : Nat} {f : Addr} {fd : FuncData} {ps : List Str} {c : PW} {x : Str} {ws : PWp} (F : FnOk X.prog X.w X.K X.mg X.base (L2.CX X.prog X.w) k f fd ps (spD T X.K n c)) (mc : Mono c) (hr : Room k X.A) (hg : Gl X x) (hm : X.mg x = some (.ref f)) (hk : PySem.W.keepIn X.K (.ref f) = true) (hb : Binds X.K fd ps []) (tk : Takes X W)
    (h : DP T X W (e :: es) ws) (hdb : (x == ("__debug__" : Str)) = false := by decide) (he : starEach (e :: es) X.env = (false, eval e X.env) :: starEach es X.env := by rfl) (hpl : (backTo pos (starEach es X.env)).any (·.1) = false := by rfl) :
    DE T X W (.Call (.Name x p) (e :: es) [] pos) (wCall n c ws) :=
  ⟨pe_mono (pe_callS (E := WE W) F hr hg hm hk hb (fun σ => passAt tk σ) h.pa hdb he hpl) fun σ H Q q => by
    obtain ⟨G, ρ, r, q⟩ := q
    refine ⟨G, ρ, r, h.mono _ _ _ _ _ (fun ss hss vs H1 r1 a1 => ?_) (fun _ z => z) q⟩
    obtain ⟨r2, no⟩ := args_rep r1 a1
    exact ⟨G.O, ss, hss.1, r2, no, mc _ _ _ _ _ (fun d hd v H' bk a => hd v H' (r1.forth bk) a) (fun x hx H' cls dd bk q => hx H' cls dd (r1.forth bk) q) hss.2⟩,
   fun ρ Q Q' E E' hq he q => h.mono _ _ _ _ _ (fun ss hss => ⟨hss.1, mc _ _ _ _ _ hq he hss.2⟩) he q⟩
end
end PL
set_option Elab.async false
set_option linter.all false
set_option maxRecDepth 100000
set_option maxHeartbeats 2000000
/-! list(reversed(xs)), xs a list -/
namespace LRv
open PySem RT
section
variable {prog : Program} {w : World} {A : Around} {s : Shared} {R : Result → Shared → Prop}
theorem ext_rev {S it l : Addr} {items : Array Value} {res : Value} (hh : A.handled = none) (hit : s.heap.IsRevIter it l ((items.size : Int) - 1)) (hl : s.heap.IsList l items) (hne : l ≠ it) (hSi : S ≠ it) (hSl : S ≠ l) (hn : items.size ≤ sizeLine)
    (hS : s.heap.get? S = some { cls := .type "list", data := .seq #[] })
    (hR : ∀ (h' : Heap) (tk : Nat) (acc : Array Value) (c' : Nat), (∀ b o, b ≠ S → b ≠ it → s.heap.get? b = some o → h'.get? b = some o) → h'.get? S = some { cls := .type "list", dict := none, data := .seq acc c', slots := #[] } →
      ItemsOf (fun i v => items[items.size - 1 - i]? = some v) acc items.size → R (.ok (.ret res)) { s with heap := h', toks := tk }) :
    wpAny (model prog w) A.in1 (Builtin.List.listExtendWith (.ref S) (.ref it) res) (fun fin s' => match fin with | .done f => R (.ok f) s' | .again c' => c'.quiet = true ∧ codeAny (model prog w) A c' R s') (fun e s' => R (.error e) s') s := by
  have Wk := (Walks.listRev (prog := prog) (w := w) (A := A.in1) hh it l hne items).toS
  have hSf : S ∉ [it, l] := by simp [hSi, hSl]
  have hT : s.TypeIs (.ref it) "list_reverseiterator" := hit.typeIs
  have e1 : Builtin.List.listSameRef (.ref S) (.ref it) = false := by simp [Builtin.List.listSameRef, hSi]
  unfold Builtin.List.listExtendWith; refine wpAny_bind (wpAny_typeOf hT ?_); rw [if_neg (by rw [e1]; decide)]
  refine wpAny_bind (wpAny_pyIter_revIter hit ?_); refine wpAny_bind (wpAny_holding ?_)
  unfold Builtin.List.listLengthHint; refine wpAny_bind (wpAny_specialOf hT nolen_lri ?_)
  show wpAny _ A.in1 (specialOf (.ref it) (Str.ofString "__length_hint__") >>= _) _ _ _; refine wpAny_bind (wpAny_specialOf hT hint_lri ?_)
  generalize hq : ("list_reverseiterator.__length_hint__" : String) = q0; wp_delta
  rw [show splitId q0 = some ("list_reverseiterator", "__length_hint__") from by subst hq; decide +kernel]; subst hq
  refine wpAny_bind (wpAny_isInstance (b := true) hT (by rw [isSubtype_type]; kernel_rfl) ?_); refine wpAny_pure ?_; rw [if_neg (by decide)]
  have e0 : ((items.size : Nat) : Int) - 1 - ((0 : Nat) : Int) = (items.size : Int) - 1 := by omega
  refine wpAny_pure ⟨plainId_quiet F.plain_extend_loop _, codeAny_extend_loopS Wk hn _ hSf _ items.size 0 _ _ _ rfl (Nat.zero_le _) ⟨Nat.zero_le _, by rw [e0]; exact hit, hl⟩ hS (ItemsOf.nil _) fun s2 acc c2 hm hS2 hacc => ?_⟩
  rw [Moved.eq_with hm] at hS2 ⊢
  exact hR s2.heap s2.toks acc c2 (fun b o h1 h2 e => hm.heap b o (by simp [h1, h2]) e) hS2 hacc
theorem call_lr {E : Value → Shared → Prop} {it l : Addr} {items : Array Value} {Q : Value → Shared → Prop} (hh : A.handled = none) (hit : s.heap.IsRevIter it l ((items.size : Int) - 1)) (hl : s.heap.IsList l items) (hne : l ≠ it) (hn : items.size ≤ sizeLine)
    (hQ : ∀ (h' : Heap) (tk : Nat) (acc : Array Value) (c' : Nat), (∀ b o, b ≠ it → s.heap.get? b = some o → h'.get? b = some o) → h'.get? s.heap.objs.size = some { cls := .type "list", dict := none, data := .seq acc c', slots := #[] } →
      ItemsOf (fun i v => items[items.size - 1 - i]? = some v) acc items.size → Q (.ref s.heap.objs.size) { s with heap := h', toks := tk }) :
    wpAny (model prog w) A (call (.type "list") [.ref it]) Q E s := by
  refine callType_codes (Q₁ := fun obj s₁ => obj = .ref s.heap.objs.size ∧ s₁ = { s with heap := s.heap.push { cls := .type "list", data := .seq #[] } }) F.called_list (F.typeCall_list_1 _) F.entry_list_init (code_list_new _ ⟨rfl, rfl⟩) fun obj s₁ h₁ => ?_
  obtain ⟨rfl, rfl⟩ := h₁
  have hS : (s.heap.push { cls := .type "list", data := .seq #[] }).get? s.heap.objs.size = some { cls := .type "list", data := .seq #[] } := Heap.get?_push_size _ rfl
  refine ⟨⟨_, hS, rfl⟩, F.args_list_init_2 _ _, ?_⟩
  obtain ⟨oi, hoi, _⟩ := id hit
  obtain ⟨ol, hol, _⟩ := id hl
  have n1 : s.heap.objs.size ≠ it := Nat.ne_of_gt (Heap.lt_size hoi)
  have n2 : s.heap.objs.size ≠ l := Nat.ne_of_gt (Heap.lt_size hol)
  show wpAny _ _ (do let old ← Builtin.List.listItems (.ref s.heap.objs.size); Builtin.List.listUpdate (.ref s.heap.objs.size) (fun _ => #[]); letGo old.toList.reverse; Builtin.List.listExtendWith (.ref s.heap.objs.size) (.ref it) .none) _ _ _
  refine wpAny_bind ?_; unfold Builtin.List.listItems; refine wpAny_bind (wpAny_seqItems hS rfl (wpAny_pure ?_))
  show wpAny _ _ (updateSeq s.heap.objs.size (fun _ => #[]) >>= fun _ => letGo (#[] : Array Value).toList.reverse >>= fun _ => Builtin.List.listExtendWith (.ref s.heap.objs.size) (.ref it) .none) _ _ _
  refine wpAny_bind (wpAny_updateSeq hS rfl ?_); refine wpAny_bind (wpAny_letGo ?_)
  have hS₂ := Heap.get?_update_self (Obj.mapSeq (fun _ => (#[] : Array Value))) hS rfl
  have oth : ∀ b o, b ≠ s.heap.objs.size → s.heap.get? b = some o → ((s.heap.push { cls := .type "list", data := .seq #[] }).update s.heap.objs.size (Obj.mapSeq (fun _ => (#[] : Array Value)))).get? b = some o := fun b o hb e => (Heap.get?_update_other _ _ (Ne.symm hb)).trans (Heap.get?_push_of_some _ e)
  refine ext_rev (s := { s with heap := (s.heap.push { cls := .type "list", data := .seq #[] }).update s.heap.objs.size (Obj.mapSeq (fun _ => (#[] : Array Value))) }) (A := A.in1) hh (hit.at fun o e => oth _ _ n1.symm e) ?_ hne n1 n2 hn hS₂ fun h' tk acc c' hk hS' hacc => ?_
  · obtain ⟨o, h1, h2⟩ := hl
    exact ⟨o, oth _ _ n2.symm h1, h2⟩
  · exact ⟨rfl, hQ h' tk acc c' (fun b o hb e => hk b o (Nat.ne_of_lt (Heap.lt_size e)) hb (oth b o (Nat.ne_of_lt (Heap.lt_size e)) e)) hS' hacc⟩
end
open PySem.Spec PyProof.Rows L2
def tLR (K : PySem.W.Frag) (te : TE) : TE := fun σ H Q => te σ H fun v H1 => ∃ (a : Addr) (xs : List V), v = .ref a ∧ SqL K H1 a xs ∧ ∀ q, H1 q = none → Q (.ref q) (upd H1 q (.lst xs.reverse))
variable {X : Cx}
theorem pe_lr {e : Expr} {te : TE} {p p2 pos pos2 : Pos} (hc : X.calm = true) (hg : Gl X "list") (hm : X.mg "list" = none) (hg2 : Gl X "reversed") (hm2 : X.mg "reversed" = none) (he : PE X e te)
    (hs : starEach [e] X.env = (false, eval e X.env) :: starEach [] X.env := by rfl) (hs2 : starEach [.Call (.Name "reversed" p2) [e] [] pos2] X.env = (false, eval (.Call (.Name "reversed" p2) [e] [] pos2) X.env) :: starEach [] X.env := by rfl) :
    PE X (.Call (.Name "list" p) [.Call (.Name "reversed" p2) [e] [] pos2] [] pos) (tLR X.K te) := by
  refine ⟨fun pins s σ H Q I h => ?_⟩
  refine Call_ (ld_blt I hg hm PyProof.Rows.boot_list (callWith_type1 (args_cons (Call_ (ld_blt I hg2 hm2 boot_reversed (callWith_type1 (args_cons (thn (he.run pins s σ H _ I h) fun u s1 ⟨v, H1, I1, r1, q1⟩ => args_nil ?_) hs) hs rfl))) hs2) hs2 rfl))
  obtain ⟨a, xs, ev, hq, q⟩ := q1; subst ev; obtain rfl : u = Value.ref a := r1
  obtain ⟨its, rv, p', hz⟩ := I1.list hq
  refine call_reversed_list p'.isList (args_nil ?_)
  have I2 : Inv X pins σ H1 { s1 with heap := s1.heap.push (revObj a ((its.toArray.size : Int) - 1)) } := I1.kept (t' := s1.toks) fun b o e => Heap.get?_push_of_some _ e
  obtain ⟨f0, f1, f2, f3, f4, f5⟩ := I1.fpOk (H' := H1) (b := s1.heap.objs.size) (Nat.le_refl _) (I1.hok.fresh (Nat.le_refl _))
  have hl := p'.isList; obtain ⟨ol, hol, _⟩ := id hl
  have hn : its.toArray.size ≤ sizeLine := by rw [List.size_toArray, ← rv.length]; exact hz
  refine call_lr (s := { s1 with heap := s1.heap.push (revObj a ((its.toArray.size : Int) - 1)) }) (I1.ok.hd hc) ⟨_, Heap.get?_push_size _ rfl, rfl, rfl⟩ (hl.push _) (Nat.ne_of_lt (Heap.lt_size hol)) hn fun h' tk acc c' hk hS hi => ?_
  have hsz : (s1.heap.push (revObj a ((its.toArray.size : Int) - 1))).objs.size = s1.heap.objs.size + 1 := by simp
  have hfr : H1 (s1.heap.objs.size + 1) = none := I1.hok.fresh (Nat.le_succ _)
  have fp := I1.fpOk (H' := H1) (b := s1.heap.objs.size) (Nat.le_refl _) (I1.hok.fresh (Nat.le_refl _))
  rw [hsz] at hS
  have I3 := I2.turnedNew (t' := tk) (h' := h') (ch := [s1.heap.objs.size]) (T := s1.heap.objs.size + 1) (ob := .lst xs.reverse) (fun b o hb e => hk b o (fun z => hb (by simp [z])) e) (fun b hb => by rw [List.mem_singleton.mp hb]; exact fp) (by rw [hsz]; exact Nat.le_refl _)
    (show ObjOk X.prog X.w _ h' _ (.lst xs.reverse) from ⟨by rw [List.length_reverse]; exact hz, acc.toList, c', vals_rev rv hi, by rw [Array.toArray_toList]; exact hS⟩)
  exact ⟨.ref _, _, I3, by rw [hsz]; rfl, q _ hfr⟩
end LRv
set_option Elab.async false
set_option linter.all false
set_option maxRecDepth 100000
set_option maxHeartbeats 2000000
namespace PL
open PySem PySem.Spec PyProof.Rows L2
open LamX (ExtN Tabs TabS)
section
variable {T : Tb} {X : Cx} {W : WX} {pos p p2 pos2 pos' apos : Pos} {e a b : Expr} {es : List Expr} {st : Stmt} {rest : List Stmt} {K : PySem.W.Frag} {G G2 : Gh} {ρ ρ2 : En} {σ σ2 : L2.St} {H H' : Hp} {D : Ends}
/-! ### times -/
theorem rep_zero {α : Type} (c : Array α) (h : c.size = 0) : ∀ (n : Nat) (acc : Array α), (List.replicate n c).foldl (· ++ ·) acc = acc
  | 0, acc => rfl
  | n + 1, acc => by
    have e : c = #[] := Array.eq_empty_of_size_eq_zero h
    rw [List.replicate_succ, List.foldl_cons, rep_zero c h n, e, Array.append_empty]
theorem rep_size {α : Type} (c : Array α) : ∀ (n : Nat) (acc : Array α), ((List.replicate n c).foldl (· ++ ·) acc).size = acc.size + n * c.size
  | 0, acc => by simp
  | n + 1, acc => by
    rw [List.replicate_succ, List.foldl_cons, rep_size c n, Array.size_append, Nat.add_mul]
    omega
theorem mul_strR {M : Program} {w : World} {A : Around} {E : Value → Shared → Prop} {s : Shared} {x : Str} {n : Int} {t u : Tok} {Q : Value → Shared → Prop} (h : -(2 ^ 63) ≤ n ∧ x.length * n.toNat ≤ sizeLine ∧ n < 2 ^ 20)
    (q : (∀ t', Q (.str (repS x n.toNat) t') { s with toks := s.toks + 1 }) ∧ ∀ t', Q (.str (repS x n.toNat) t') s) : wpAny (model M w) A (binaryOp .Mult (.str x t) (.int n u)) Q E s := by
  obtain ⟨h1, h2, h3⟩ := h
  have hz : (repS x n.toNat).length = n.toNat * x.length := by
    show ((List.replicate n.toNat x.cps).foldl (· ++ ·) #[]).size = _
    rw [rep_size]
    exact Nat.zero_add _
  refine PySem.P.mul_str ?_ (fun hn _ => ?_) (fun hn _ => ?_) ?_
  · rw [Bool.or_eq_false_iff]
    exact ⟨decide_eq_false (by omega), decide_eq_false (by omega)⟩
  · have hx : x.length ≤ sizeLine := by
      have : 1 ≤ n.toNat := by omega
      calc x.length = x.length * 1 := (Nat.mul_one _).symm
        _ ≤ x.length * n.toNat := Nat.mul_le_mul_left _ this
        _ ≤ _ := h2
    rw [sizeLine_eq] at hx
    have : (16777216 : Int) ≤ (2 ^ 63 - 1) / n := by
      rw [Int.le_ediv_iff_mul_le (by omega)]
      omega
    omega
  · show decide (_ > sizeLine) = false
    exact decide_eq_false (by omega)
  · by_cases c : n < 1
    · rw [if_pos c]
      have e : n.toNat = 0 := by omega
      have e2 : repS x n.toNat = Str.empty := by rw [e]; rfl
      rw [e2] at q
      exact ⟨by decide, q.1 _⟩
    · rw [if_neg c]
      by_cases c2 : (n == 1 || x.length == 0) = true
      · rw [if_pos c2]
        have e2 : repS x n.toNat = x := by
          rcases Bool.or_eq_true_iff.mp c2 with c3 | c3
          · have : n = 1 := by simpa using c3
            subst this
            show Str.mk ((List.replicate 1 x.cps).foldl (· ++ ·) #[]) = x
            simp
          · have h0 : x.cps.size = 0 := eq_of_beq c3
            have : x.cps = #[] := Array.eq_empty_of_size_eq_zero h0
            show Str.mk ((List.replicate n.toNat x.cps).foldl (· ++ ·) #[]) = x
            rw [rep_zero _ h0, ← this]
        rw [e2] at q
        exact q.2 _
      · rw [if_neg c2]
        refine ⟨?_, q.1 _⟩
        show (repS x n.toNat).length ≤ _
        rw [hz, Nat.mul_comm]
        exact h2
theorem opD_mul : OpD T X (binaryOp .Mult) fMul := by
  intro pins s σ0 H x y v u Q I rx ry q
  obtain ⟨G, ρ, σ, d, e, r, tx, ty, q⟩ := q
  unfold fMul at q
  split at q
  · rename_i i j
    exact op_mul pins s σ0 H x y v u Q I rx ry ⟨i, j, tx.int, ty.int, q.1, q.2 _ H r (.int _)⟩
  · rename_i i j
    rw [tx.str] at rx
    rw [ty.int] at ry
    obtain ⟨t, rfl⟩ := rx
    obtain ⟨t', rfl⟩ := ry
    exact mul_strR q.1 ⟨fun t' => ⟨.str _, H, I.tok _, ⟨_, rfl⟩, q.2 _ H r (.str _)⟩, fun t' => ⟨.str _, H, I, ⟨_, rfl⟩, q.2 _ H r (.str _)⟩⟩
  · exact q.elim
/-! ### list(reversed(xs)) -/
def wLR (w : PW) : PW := fun ρ Q E => w ρ (fun d => match d with | .list ds => Q (.list ds.reverse) | _ => False) E
theorem df_lr {w : PW} (hc : X.calm = true) (hg : Gl X "list") (hm : X.mg "list" = none) (hg2 : Gl X "reversed") (hm2 : X.mg "reversed" = none) (he : DE T X W e w)
    (hs : starEach [e] X.env = (false, eval e X.env) :: starEach [] X.env := by rfl) (hs2 : starEach [.Call (.Name "reversed" p2) [e] [] pos2] X.env = (false, eval (.Call (.Name "reversed" p2) [e] [] pos2) X.env) :: starEach [] X.env := by rfl) :
    DF T X W (.Call (.Name "list" p) [.Call (.Name "reversed" p2) [e] [] pos2] [] pos) (wLR w) :=
  ⟨pe_mono (LRv.pe_lr hc hg hm hg2 hm2 he.pe hs hs2) fun σ H Q q => by
    obtain ⟨G, ρ, r, q⟩ := q
    refine ⟨G, ρ, r, he.mono _ _ _ _ _ (fun d hd v H1 r1 a1 => ?_) (fun _ z => z) q⟩
    cases a1 with
    | lst h1 h2 =>
      refine ⟨_, _, rfl, SqL.of (hide_some h1).2, fun q hq => ?_⟩
      obtain ⟨r2, na, ap, h3, h4⟩ := r1.newL hq h2.reverse
      exact hd q _ _ _ rfl r2 na ap h3 h4
    | _ => exact hd.elim, fun ρ Q Q' E E' hq he' q => he.mono _ _ _ _ _ (fun d hd => by cases d <;> first | exact hq _ hd | exact hd) he' q⟩
/-! ### enumerate -/
def enumD (ds : List PyData) : List PyData := ds.zipIdx.map fun p => .tuple [.int (p.2 : Nat), p.1]
theorem enumD_get {ds : List PyData} {i : Nat} {d : PyData} (h : (enumD ds)[i]? = some d) : ∃ x, ds[i]? = some x ∧ d = .tuple [.int (i : Nat), x] := by
  unfold enumD at h
  rw [List.getElem?_map, List.getElem?_zipIdx] at h
  cases z : ds[i]? with
  | none => rw [z] at h; cases h
  | some x => rw [z] at h; cases h; exact ⟨x, rfl, by simp⟩
theorem enumD_length (ds : List PyData) : (enumD ds).length = ds.length := by simp [enumD]
theorem wk_enum {a : Addr} {vs : List V} {ds : List PyData} {B : Hp} (h : B a = some (.lst vs)) (hx : DaAll K B vs ds) : WkJ K B (Ite K a) (enumD ds) := fun O H e dm => by
  have hs : hide O H a = some (.lst vs) := e _ _ h fun ps z => by cases z
  have hH := (hide_some hs).2
  refine ⟨fun i d hd => ?_, fun i hi => ⟨vs, SqL.of hH, ?_⟩⟩
  · obtain ⟨x, h1, rfl⟩ := enumD_get hd
    obtain ⟨v, h2, h3⟩ := hx.getD h1
    refine ⟨⟨vs, v, SqL.of hH, h2⟩, fun y H3 hy => ?_⟩
    obtain ⟨t, z, rfl, nt, rfl, hz⟩ := hy
    have ez : z = v := Option.some.inj ((hz vs (SqL.of hH)).symm.trans h2)
    subst ez
    refine ⟨fun b o hb => by rw [upd_ne (ne_of_none hb nt)]; exact hb, ?_⟩
    have nO : t ∉ O := fun z => dm t z nt
    have eT : ExtN B (hide O (upd H t (.tup [.int (i : Nat), z]))) := e.trans (ext_hide fun b o _ hb _ => by rw [upd_ne (ne_of_none hb nt)]; exact hb)
    exact .tup (by rw [hide_out nO, upd_same]) (.cons (.int _) (.cons (h3.ext eT) .nil))
  · rw [enumD_length] at hi
    rw [hx.length]
    exact hi
def wItE (w : PW) : PWs := fun ρ Q E => w ρ (fun d => match d with | .list ds => Q (enumD ds) | _ => False) E
theorem di_enum {elts : List Expr} {kk : Nat} {tpos : Pos} {w : PW} (hg : Gl X "enumerate") (hm : X.mg "enumerate" = none) (h : DE T X W e w) (hs : starEach [e] X.env = [(false, eval e X.env)] := by rfl)
    (hs2 : starEach [e] X.env = (false, eval e X.env) :: starEach [] X.env := by rfl) : DI T X W (.Tuple elts kk tpos) (.Call (.Name "enumerate" p) [e] [] pos) (wItE w) := ⟨pi_mono (pi_enum hg hm (pa_cons h.pe pa_nil hs2) hs) fun σ H R q => by
    obtain ⟨G, ρ, r, q⟩ := q
    refine ⟨G, ρ, r, h.mono _ _ _ _ _ (fun d hd v H' r' a => ?_) (fun _ z => z) q⟩
    cases a with
    | lst h1 h2 => exact ⟨_, _, rfl, SqL.of (hide_some h1).2, hd _ H' r' (wk_enum h1 h2)⟩
    | _ => exact hd.elim, fun ρ Q Q' E E' hq he q => h.mono _ _ _ _ _ (fun d hd => by cases d <;> first | exact hq _ hd | exact hd) he q⟩
/-! ### dice -/
def wDix (i : Nat) (k : Nat) : PW := fun ρ Q _ => ρ[i]? = some .dice ∧ k < 3 ∧ ∀ n : Int, Q (.int n)
theorem de_dix {i k j : Nat} (h : PE X a (tVar i)) : DE T X W (.Subscript a (.Constant (.int (k : Nat)) j p) pos) (wDix i k) := ⟨pe_mono (pe_ix ix_list h pe_int (fun _ _ => rfl)) fun σ H Q q => by
    obtain ⟨G, ρ, r, hd, hk, q⟩ := q
    obtain ⟨v, h1, b, rfl, hb⟩ := r.slot i _ hd
    obtain ⟨_, ⟨x, y, z, hH⟩, _⟩ := r.dcs b hb
    have three : k = 0 ∨ k = 1 ∨ k = 2 := by omega
    rcases three with rfl | rfl | rfl
    · exact ⟨_, h1, b, _, _, .int x, rfl, rfl, SqL.of hH, rfl, q x _ H r (.int _)⟩
    · exact ⟨_, h1, b, _, _, .int y, rfl, rfl, SqL.of hH, rfl, q y _ H r (.int _)⟩
    · exact ⟨_, h1, b, _, _, .int z, rfl, rfl, SqL.of hH, rfl, q z _ H r (.int _)⟩, fun ρ Q Q' E E' hq _ q => ⟨q.1, q.2.1, fun n => hq _ (q.2.2 n)⟩⟩
def sDst (i k : Nat) (w : PW) : SW := fun ρ D => ρ[i]? = some .dice ∧ k < 3 ∧ w ρ (fun d => match d with | .int _ => D.nx ρ | _ => False) D.ex
theorem ds_dst {i k j : Nat} {w : PW} (ho : PE X a (tVar i)) (h : DE T X W e w) (hs : swapsWithSole [.Subscript a (.Constant (.int (k : Nat)) j p2) p] e pos.line X.env = pure false := by rfl) (hw : swappedStores [.Subscript a (.Constant (.int (k : Nat)) j p2) p] e X.env = pure none := by rfl)
    (h1 : (assignEach [.Subscript a (.Constant (.int (k : Nat)) j p2) p] X.env).map (·.2) = [assign (.Subscript a (.Constant (.int (k : Nat)) j p2) p) X.env] := by rfl)
    (ha : ∀ v, assign (.Subscript a (.Constant (.int (k : Nat)) j p2) p) X.env v = (do
      let ov ← holding [v] (eval a X.env)
      let iv ← holding [v, ov] (eval (.Constant (.int (k : Nat)) j p2) X.env)
      standAt p
      holding [v, ov, iv] (setItem ov iv v)
      release [v, ov, iv] []) := by intro _; rfl) : DS T X W (.Assign [.Subscript a (.Constant (.int (k : Nat)) j p2) p] e pos) (sDst i k w) :=
  ⟨ps_mono (ps_asg h.pe (pg_sub ho pe_int set_list ha) hs hw h1) fun D σ H q => by
    obtain ⟨G, ρ, r, fa, hd, hk, q⟩ := q
    refine ⟨G, ρ, r, h.mono _ _ _ _ _ (fun d hd' v H1 r1 a1 => ?_) (fun _ z => ex_out' z) q⟩
    cases a1 with
    | int n =>
      obtain ⟨v, hv, b, rfl, hb⟩ := r1.slot i _ hd
      obtain ⟨hO, ⟨x, y, z, hH⟩, hfl⟩ := r1.dcs b hb
      have fin : ∀ x' y' z' : Int, D.nx σ (upd H1 b (.lst [.int x', .int y', .int z'])) := fun x' y' z' => by
        refine hd' σ _ G.O (r1.stepD (by rw [hide_upd hO]; exact ExtN.refl _) (fun c _ nc => upd_ne fun e => nc (by rw [e]; exact hb)) (fun c hc => ?_) (r1.tab.upd hH (.inl ⟨_, rfl⟩))) fa
        by_cases e : c = b
        · subst e; exact ⟨_, _, _, upd_same⟩
        · rw [upd_ne e]; exact (r1.dcs c hc).2.1
      have three : k = 0 ∨ k = 1 ∨ k = 2 := by omega
      rcases three with rfl | rfl | rfl
      · exact ⟨_, hv, b, _, _, 0, rfl, rfl, hH, rfl, fin n y z⟩
      · exact ⟨_, hv, b, _, _, 1, rfl, rfl, hH, rfl, fin x n z⟩
      · exact ⟨_, hv, b, _, _, 2, rfl, rfl, hH, rfl, fin x y n⟩
    | _ => exact hd'.elim, fun ρ D D' l q => ⟨q.1, q.2.1, h.mono _ _ _ _ _ (fun d hd => by cases d <;> first | exact l.nx _ hd | exact hd) l.ex q.2.2⟩⟩
end
end PL
set_option Elab.async false
set_option linter.all false
set_option maxRecDepth 100000
set_option maxHeartbeats 2000000
namespace PL
open PySem PySem.Spec PyProof.Rows L2 LamX
/-! ### told(lambda: e) -/
/-- all but the table at P stays -/
def ExtB (P : Addr) (H H' : Hp) : Prop := ∀ b o, b ≠ P → H b = some o → H' b = some o
section
variable {X : Cx} {pins : List (Addr × Obj)} {σ : L2.St} {H : Hp} {s : Shared} {T : Tb}
theorem lam_new {c P : Addr} {params : Arguments} {body : Expr} {scope : Scope} {pos : Pos} {E : Value → Shared → Prop} {Q : Value → Shared → Prop} (I : Inv X pins σ H s) (B : TabB X.base X.mg c P) (hcode : X.env.code = .ref c) (hm : (P, X.env.qual ++ "<lambda>") ∈ T.tl)
    (hu : ∀ p ∈ T.tl, p.1 = P → p.2 = X.env.qual ++ "<lambda>") (hg : P ∉ T.tg) (hT : TOk T H) (hdef : defaultsOf params X.env = ([], [])) (hfree : ∀ y ∈ scope.names, y.2 = .free → ∃ c, X.env.cells.lookup y.1 = some c)
    (h : ∀ (f c' : Addr) (pm ctv : Value) (H1 : Hp) (s' : Shared), Inv X pins σ H1 s' → ExtB P H H1 → TOk T H1 → s'.heap.get? f = some (PySem.W.kla_obj "<lambda>" (X.env.qual ++ "<lambda>") params body scope (cloFrom X.env.cells scope.names []) pm c' ctv) → H1 f = none → f ∉ frs X.stack →
      H1 c' = some (CodeO c' (X.env.qual ++ "<lambda>")) → s.heap.objs.size ≤ f → Q (.ref f) s') : wpAny (model X.prog X.w) X.A (eval (.Lambda params body scope pos) X.env) Q E s := by
  obtain ⟨ps, hP, ht, ha⟩ := hT.l _ hm
  have atP : s.heap.get? P = some { cls := .none, data := .fields ps } := I.hok P _ hP
  have far : ∀ f, s.heap.objs.size ≤ f → f ∉ frs X.stack := fun f hf z => (List.mem_cons.mp (I.stkSub _ z)).elim (fun e => Nat.lt_irrefl _ (Nat.lt_of_lt_of_le (by rw [e]; exact I.lt) hf)) (fun e => I.nofs hf e)
  refine PySem.W.kla_eval hdef ?_
  cases hc : codeAmong pos ps.toList with
  | some cv =>
    obtain ⟨c', rfl, hco⟩ := ha pos cv hc
    refine PySem.W.kla_makeFunctionHit (mg := X.mg) (c := c) (P := P) (ps := ps) (closure_ok hfree) I.ok.glob (I.mod.glob.keeps I.bk) hcode (B.code.keeps I.bk) atP ht hc (B.bm.keeps I.bk) fun ctv h' tk hx hsz => ?_
    have I1 : Inv X pins σ H { s with heap := h'.push (PySem.W.kla_obj "<lambda>" (X.env.qual ++ "<lambda>") params body scope (cloFrom X.env.cells scope.names []) ((X.mg "__name__").getD .none) c' ctv), toks := tk } := I.kept fun b o e => Heap.get?_push_of_some _ (hx b o e)
    exact h _ c' _ ctv H _ I1 (fun b o _ e => e) hT (Heap.get?_push_size _ rfl) (I.hok.fresh hsz) (far _ hsz) hco hsz
  | none =>
    refine PySem.W.kla_makeFunction (mg := X.mg) (c := c) (P := P) (ps := ps) (closure_ok hfree) I.ok.glob (I.mod.glob.keeps I.bk) hcode (B.code.keeps I.bk) atP ht hc B.gP (B.bm.keeps I.bk) fun c' ctv h' tk hx hge hlt hrec htb => ?_
    obtain ⟨c2, oc, vs, t, e2, hoc, hd, hv⟩ := hrec
    cases e2
    have big : s.heap.objs.size ≤ h'.objs.size := Nat.le_trans hge (Nat.le_of_lt hlt)
    have new : H c' = none := I.hok.fresh hge
    have I1 := inv_table (t' := tk) (q := X.env.qual ++ "<lambda>") (more := #[rawInt pos.line, rawInt pos.col, .ref c']) (h' := h'.push (PySem.W.kla_obj "<lambda>" (X.env.qual ++ "<lambda>") params body scope (cloFrom X.env.cells scope.names []) ((X.mg "__name__").getD .none) c' ctv)) I hP (fun b o hb e => Heap.get?_push_of_some _ (hx b o hb e)) (Heap.get?_push_of_some _ htb) hge ⟨oc, vs, t, Heap.get?_push_of_some _ hoc, hd, hv⟩
    have keep : ExtB P H (upd (upd H P (.tbl (ps ++ #[rawInt pos.line, rawInt pos.col, .ref c']))) c' (CodeO c' (X.env.qual ++ "<lambda>"))) := fun b o hb e => by rw [upd_ne (ne_of_none e new), upd_ne hb]; exact e
    have codeK : ∀ {c0 q}, H c0 = some (CodeO c0 q) → c0 ≠ P := fun {c0 q} e z => by rw [z, hP] at e; exact codeO_ne ps (Option.some.inj e).symm
    have el : (ps ++ #[rawInt pos.line, rawInt pos.col, .ref c']).toList = ps.toList ++ [rawInt pos.line, rawInt pos.col, .ref c'] := by simp
    have nP : P ≠ c' := ne_of_none hP new
    refine h h'.objs.size c' _ ctv _ _ I1 keep ⟨fun P' hP' => ?_, fun p hp => ?_⟩ (Heap.get?_push_size _ rfl) ?_ (far _ big) upd_same big
    · obtain ⟨ps', h1, h2⟩ := hT.g P' hP'
      exact ⟨ps', keep _ _ (fun z => hg (by rw [← z]; exact hP')) h1, h2⟩
    · by_cases hb : p.1 = P
      · rw [hu p hp hb, hb]
        refine ⟨_, by rw [upd_ne nP, upd_same], by rw [el]; exact TriplesOk_snoc _ _ _ _ ht, fun p' cv hcv => ?_⟩
        rw [el] at hcv
        exact (among_app _ ht hcv).elim (fun z => by obtain ⟨c0, e1, e2⟩ := ha p' cv z; exact ⟨c0, e1, keep _ _ (codeK e2) e2⟩) fun z => ⟨c', z, upd_same⟩
      · obtain ⟨ps', a1, a2, a3⟩ := hT.l p hp
        exact ⟨ps', keep _ _ hb a1, a2, fun p' cv hcv => by obtain ⟨c0, e1, e2⟩ := a3 p' cv hcv; exact ⟨c0, e1, keep _ _ (codeK e2) e2⟩⟩
    · rw [upd_ne (Nat.ne_of_gt hlt), upd_ne (Nat.ne_of_gt (Nat.lt_of_lt_of_le (Heap.lt_size atP) big))]
      exact I.hok.fresh big
def tLamB (T : Tb) (P : Addr) (TT : (XK → Hp → VK → Prop) → Hp → VK → Prop) (t : XK → TE) : TE := fun σ H Q => TOk T H ∧ ∀ H1, ExtB P H H1 → TOk T H1 → TT (fun E H' Q' => t E σ H' Q') H1 Q
theorem pe_lamB {TT : (XK → Hp → VK → Prop) → Hp → VK → Prop} {x a : Str} {g c P cg : Addr} {k : Nat} {stg : Stmt} {fdg : FuncData} {Ng : List Str} {params : Arguments} {body : Expr} {scope : Scope} {t : XK → TE} {p lpos pos : Pos} (hgl : Gl X x) (hmg : X.mg x = some (.ref g)) (F : FunC X.K x stg g cg fdg)
    (hb : L2.Binds X.K fdg [a] []) (Sg : FnScope Ng [a] (defScope stg)) (hNg : Ng[0]? = some a) (hva : Vis (defScope stg) a) (hG : GivesTo X Ng x (defScope stg) g (.ref cg) (defBody stg) a (X.env.qual ++ "<lambda>") TT)
    (B : TabB X.base X.mg c P) (hcode : X.env.code = .ref c) (hmT : (P, X.env.qual ++ "<lambda>") ∈ T.tl) (hu : ∀ p ∈ T.tl, p.1 = P → p.2 = X.env.qual ++ "<lambda>") (hnt : P ∉ T.tg) (hr : Room (k + 2) X.A) (L : LamS X.env.scope scope) (hdef : defaultsOf params X.env = ([], []))
    (hbind : ∀ (q : Str) (cl : List (Str × Addr)) (pm cv ctv : Value), bindArgs (PySem.W.kla_fn "<lambda>" q params body scope cl pm cv ctv) ⟨[], []⟩ = pure [])
    (hbody : ∀ (A : Around) (outer : List Env) (s : Shared) (H : Hp) (E : XK) (f c' : Addr), Room k (A.deeper (lamEnv X scope s.heap.objs.size f c')) → PE (lamCx X A outer s H E scope f c') body (t E))
    (hdb : (x == ("__debug__" : Str)) = false := by decide) (hd : (a == ("__debug__" : Str)) = false := by decide) (hcd : (a == ("__classdict__" : Str)) = false := by decide) : PE X (.Call (.Name x p) [.Lambda params body scope lpos] [] pos) (tLamB T P TT t) := by
  obtain ⟨oc, od, kV, doc, pm, an, ct, osl, rfl, lk, hcg⟩ := F.ex
  refine ⟨fun pins s σ H Q I ⟨hT, h⟩ => wpAny_Call_Name_kw (ld_glob I hgl hmg ?_ hdb)⟩
  refine PySem.W.callWith_K (h₀ := X.base) I.ok.mod.kin F.kp ?_ (by rfl) (by rfl)
  show wpAny _ _ (spliced ((false, eval (.Lambda params body scope lpos) X.env) :: backTo pos (starEach [] X.env))) _ _ s
  refine Calls.spliced_cons (lam_new I B hcode hmT hu hnt hT hdef (L.has I.ok) fun f c' pm' ctv H1 s' I1 eN T1 hf hfn hfr hco _ => Calls.spliced_nil ⟨I1.kIn, ?_⟩)
  have run : codeAny (model X.prog X.w) X.A (.call (.ref g) ⟨[.ref f], []⟩) (CR C8.CX0 X.stack X.prog X.w H1 s' Q C8.E0) s' := run_ofS (N := Ng) (ps := [a]) (us := [.ref f]) (vs := [.ref f]) lk hcg Sg hr I1.env0 (hb s' [.ref f] I1.kIn rfl) (.cons rfl .nil) rfl fun hr' => by
    obtain ⟨t', ht', hq'⟩ := hG f c' s' H1 Q (fun E H' Q' => t E σ H' Q') (fun W pn xe E p1 p2 tk hW => pe_act (i := 0) I1 L hf hfn hfr (hbind _ _ _ _ _) tk hW hr' (fun A outer s H hr2 => hbody A outer s H E f c' hr2) hNg hva hd hcd) hco (h H1 eN T1)
    exact ⟨t', ht'.nox, hq'⟩
  refine wpAny_call (codeAny_mono run fun r s2 hq => ?_)
  cases r with
  | error e => exact False.elim hq
  | ok fl => cases fl with
    | ret u => exact I1.after hq
    | next => exact False.elim hq
    | brk => exact False.elim hq
    | cont => exact False.elim hq
/-! ### three clauses -/
def toldRet : List (Addr × Str) → Addr → Option Str
  | [], _ => none
  | (a, r) :: l, c => if c = a then some r else toldRet l c
/-- which classes a clause catches -/
def Apart (K : PySem.W.Frag) (cs : List Addr) : Prop := ∀ a ∈ cs, ∀ b ∈ cs, PySem.W.exmOne K (.ref a) (.ref b) = some (decide (a = b))
def TTold3 (hs : List (Addr × Str)) : (XK → Hp → VK → Prop) → Hp → VK → Prop := fun tl H Q => tl (fun cls _ H' => ∃ C r, cls = .ref C ∧ C ∈ hs.map (·.1) ∧ toldRet hs C = some r ∧ Q (.str r) H') H Q
theorem told_gives3 {Ng : List Str} {x a q e1 e2 e3 r1 r2 r3 : Str} {sg : Scope} {g C1 C2 C3 : Addr} {cdg : Value} {j1 j2 j3 : Nat} {p1 p2 p3 p4 p5 p6 p7 p8 p9 p10 p11 p12 p13 p14 p15 p16 : Pos} (ap : Apart X.K [C1, C2, C3])
    (g1 : sg.names.lookup e1 = some .globalImplicit) (m1 : X.mg e1 = some (.ref C1)) (d1 : (e1 == ("__debug__" : Str)) = false) (g2 : sg.names.lookup e2 = some .globalImplicit) (m2 : X.mg e2 = some (.ref C2)) (d2 : (e2 == ("__debug__" : Str)) = false) (g3 : sg.names.lookup e3 = some .globalImplicit) (m3 : X.mg e3 = some (.ref C3)) (d3 : (e3 == ("__debug__" : Str)) = false)
    (h0 : ∀ f : Addr, (L2.start Ng [V.ref f])[0]? = some (some (V.ref f))) :
    GivesTo X Ng x sg g cdg [.Try [.Return (some (.Call (.Name a p1) [] [] p2)) p3] [.ExceptHandler (some (.Name e1 p4)) none [.Return (some (.Constant (.str r1) j1 p5)) p6] p7, .ExceptHandler (some (.Name e2 p8)) none [.Return (some (.Constant (.str r2) j2 p9)) p10] p11, .ExceptHandler (some (.Name e3 p12)) none [.Return (some (.Constant (.str r3) j3 p13)) p14] p15] [] [] p16] a q (TTold3 [(C1, r1), (C2, r2), (C3, r3)]) := by
  intro f c' s H Q tl act hc h
  let Z := (cxOf C8.CX0 X.prog X.w X.K X.mg X.base Ng x sg g cdg X.A X.stack s H C8.E0).nox
  refine ⟨_, pss_one (ps_try_many (X := Z) (Wout := fun _ _ _ _ => False) (l := [(.ref C1, fun _ _ _ => tRet (tC (.str r1))), (.ref C2, fun _ _ _ => tRet (tC (.str r2))), (.ref C3, fun _ _ _ => tRet (tC (.str r3)))])
      (tb := fun W D σ H => ∃ Ech : XK, (∀ cls d σ' H', Ech cls d H' → W cls d σ' H') ∧ σ[0]? = some (some (.ref f)) ∧ H c' = some (CodeO c' q) ∧ tl Ech H D.rt) rfl rfl LamX.takes0 (fun W pn xe tk _ => ?_)
      (.cons ⟨g1, d1, .inl m1⟩ (fun a oe cls d pn _ _ => pss_one (ps_ret pe_str)) (.cons ⟨g2, d2, .inl m2⟩ (fun a oe cls d pn _ _ => pss_one (ps_ret pe_str)) (.cons ⟨g3, d3, .inl m3⟩ (fun a oe cls d pn _ _ => pss_one (ps_ret pe_str)) .nil)))), ?_⟩
  · exact ⟨fun pins s' σ H' D I ⟨Ech, hW, h1, h2, h3⟩ => (pss_one (ps_ret (pos := p3) (act W pn xe Ech p1 p2 tk hW))).run pins s' σ H' D I ⟨h1, h2, h3⟩⟩
  · refine ⟨_, fun cls d σ' H' hx => ?_, h0 f, hc, h⟩
    obtain ⟨C, r, rfl, hC, hr, hQ⟩ := hx
    have A1 := ap C hC C1 (by simp)
    have A2 := ap C hC C2 (by simp)
    have A3 := ap C hC C3 (by simp)
    refine ⟨_, A1, fun e _ _ => ?_, fun e => ⟨_, A2, fun e' _ _ => ?_, fun e' => ⟨_, A3, fun e'' _ _ => ?_, fun e'' => ?_⟩⟩⟩
    · rw [toldRet, if_pos (of_decide_eq_true e)] at hr
      cases hr; exact hQ
    · rw [toldRet, if_neg (of_decide_eq_false e), toldRet, if_pos (of_decide_eq_true e')] at hr
      cases hr; exact hQ
    · rw [toldRet, if_neg (of_decide_eq_false e), toldRet, if_neg (of_decide_eq_false e'), toldRet, if_pos (of_decide_eq_true e'')] at hr
      cases hr; exact hQ
    · rw [toldRet, if_neg (of_decide_eq_false e), toldRet, if_neg (of_decide_eq_false e'), toldRet, if_neg (of_decide_eq_false e'')] at hr
      cases hr
/-! ### the rule -/
def wTold (hs : List (Addr × Str)) (w : PW) : PW := fun ρ Q _ => w ρ Q fun x => ∃ r, x.cls ∈ hs.map (·.1) ∧ toldRet hs x.cls = some r ∧ Q (.str r)
theorem Rep.extB {P : Addr} {K : PySem.W.Frag} {G : Gh} {ρ : En} {H' : Hp} {nm : Str} (r : Rep T K G ρ σ H) (hP : TabS H P nm) (e : ExtB P H H') (t : TOk T H') : Rep T K G ρ σ H' := by
  obtain ⟨ps, h1, _⟩ := hP
  have ne : ∀ {b o}, H b = some o → (∀ ps, o ≠ .tbl ps) → b ≠ P := fun {b o} h hn z => by rw [z, h1] at h; exact hn _ (Option.some.inj h).symm
  exact r.step (ext_hide fun b o _ h hn => e _ _ (ne h hn) h) (fun a ha => by obtain ⟨o, h, hn⟩ := r.dom a ha; rw [h, e _ _ (ne h hn) h]) t
theorem de_told {W : WX} {hs : List (Addr × Str)} {x a : Str} {g c P cg : Addr} {k : Nat} {stg : Stmt} {fdg : FuncData} {Ng : List Str} {params : Arguments} {body : Expr} {scope : Scope} {w : PW} {p lpos pos : Pos} (hgl : Gl X x) (hmg : X.mg x = some (.ref g)) (F : FunC X.K x stg g cg fdg)
    (hb : L2.Binds X.K fdg [a] []) (Sg : FnScope Ng [a] (defScope stg)) (hNg : Ng[0]? = some a) (hva : Vis (defScope stg) a) (hG : GivesTo X Ng x (defScope stg) g (.ref cg) (defBody stg) a (X.env.qual ++ "<lambda>") (TTold3 hs))
    (B : TabB X.base X.mg c P) (hcode : X.env.code = .ref c) (hmT : (P, X.env.qual ++ "<lambda>") ∈ T.tl) (hu : ∀ p ∈ T.tl, p.1 = P → p.2 = X.env.qual ++ "<lambda>") (hnt : P ∉ T.tg) (hr : Room (k + 2) X.A) (L : LamS X.env.scope scope) (hdef : defaultsOf params X.env = ([], []))
    (hbind : ∀ (q : Str) (cl : List (Str × Addr)) (pm cv ctv : Value), bindArgs (PySem.W.kla_fn "<lambda>" q params body scope cl pm cv ctv) ⟨[], []⟩ = pure [])
    (hbody : ∀ (A : Around) (outer : List Env) (s : Shared) (H : Hp) (E : XK) (f c' : Addr), Room k (A.deeper (lamEnv X scope s.heap.objs.size f c')) → DE T (lamCx X A outer s H E scope f c') (fun cls d _ H => E cls d H) body w)
    (hdb : (x == ("__debug__" : Str)) = false := by decide) (hd : (a == ("__debug__" : Str)) = false := by decide) (hcd : (a == ("__classdict__" : Str)) = false := by decide) : DE T X W (.Call (.Name x p) [.Lambda params body scope lpos] [] pos) (wTold hs w) := by
  have mw : Mono w := (hbody X.A X.outer X.s_0 X.H_0 (fun _ _ _ => False) 0 0 ((hr.deeper (k := k + 1) _).mono (Nat.le_succ _))).mono
  exact ⟨pe_mono (pe_lamB (T := T) (t := fun E => lift T X.K (fun cls d _ H => E cls d H) w) hgl hmg F hb Sg hNg hva hG B hcode hmT hu hnt hr L hdef hbind (fun A outer s H E f c' hr => (hbody A outer s H E f c' hr).pe) hdb hd hcd) fun σ H Q q => by
    obtain ⟨G, ρ, r, q⟩ := q
    refine ⟨r.tab, fun H1 e t1 => ?_⟩
    have r1 := r.extB (r.tab.l _ hmT) e t1
    refine ⟨G, ρ, r1, mw _ _ _ _ _ (fun d hd v H' r' a => hd v H' r' a) (fun x hx H' cls dd r' ex => ?_) q⟩
    obtain ⟨rt, h1, h2, h3⟩ := hx
    exact ⟨x.cls, rt, ex.1, h1, h2, h3 _ H' r' (.str _)⟩,
   fun ρ Q Q' E E' hq he q => mw _ _ _ _ _ hq (fun x ⟨r, h1, h2, h3⟩ => ⟨r, h1, h2, hq _ h3⟩) q⟩
end
end PL
set_option Elab.async false
set_option linter.all false
set_option maxRecDepth 100000
set_option maxHeartbeats 2000000
namespace PL
open PySem PySem.Spec PyProof.Rows L2
open LamX (ExtN Tabs TabS)
/-! ### the law: for dice in _law_rounds(script, n): ..; return True -/
def lawEnd (n : Nat) : PEn where
  nx ρ := ρ.length = n
  rt d := d = .bool true
  bk _ := False
  ct ρ := ρ.length = n
  ex _ := False
def uns (n : Nat) : En := List.replicate n .un
def Triples (ds : List PyData) : Prop := ∀ d ∈ ds, ∃ x y z : Int, d = .list [.int x, .int y, .int z]
section
variable {T : Tb} {X : Cx} {W : WX} {pos p p2 pos2 pos' apos : Pos} {e a b tg iter : Expr} {es : List Expr} {body : List Stmt} {K : PySem.W.Frag} {G G2 : Gh} {ρ ρ2 : En} {σ σ2 : L2.St} {H H' : Hp} {D : Ends}
def tDices (T : Tb) (K : PySem.W.Frag) (W : WX) (wi : PW) (i n : Nat) (bw : SW) : TS := fun D σ H => ∃ G ρ, Rep T K G ρ σ H ∧ ρ.length = n ∧ T.dc = [] ∧
  wi ρ (fun d => ∃ ds, d = .list ds ∧ Triples ds ∧ bw ((uns n).set i .dice) (lawEnd n)) (fun _ => False) ∧ (∀ σ' H', D.nx σ' H') ∧ ∀ H', D.rt (.bl true) H'
theorem Rep.forget (r : Rep T K G ρ σ H) {n : Nat} (hn : ρ.length = n) : Rep T K G (uns n) σ H where
  len := by rw [← r.len, hn]; exact List.length_replicate
  slot i s hs := by
    have hi : i < n := by
      have := (List.getElem?_eq_some_iff.mp hs).1
      rwa [uns, List.length_replicate] at this
    rw [uns, List.getElem?_replicate, if_pos hi] at hs
    cases hs
    have hl : i < σ.length := by rw [← r.len, hn]; exact hi
    exact ⟨_, List.getElem?_eq_getElem hl, trivial⟩
  sep i j s t a hij hi hj hs ht e1 e2 := by
    rw [uns, List.getElem?_replicate] at hi
    split at hi
    · cases hi; cases hs
    · cases hi
  tab := r.tab
  ext := r.ext
  dom := r.dom
  fly := r.fly
  dcs := r.dcs
theorem triple_of {v : V} {d : PyData} (h : Da K H v d) (t : ∃ x y z : Int, d = .list [.int x, .int y, .int z]) : ∃ b x y z, v = .ref b ∧ H b = some (.lst [.int x, .int y, .int z]) := by
  obtain ⟨x, y, z, rfl⟩ := t
  cases h with
  | lst h1 h2 =>
    cases h2 with
    | cons a1 h2 => cases h2 with
      | cons a2 h2 => cases h2 with
        | cons a3 h2 =>
          cases h2
          cases a1; cases a2; cases a3
          exact ⟨_, x, y, z, rfl, h1⟩
theorem triples_of : ∀ {vs : List V} {ds : List PyData}, DaAll K H vs ds → Triples ds → ∃ dc : List Addr, vs = dc.map V.ref ∧ ∀ b ∈ dc, ∃ x y z, H b = some (.lst [.int x, .int y, .int z])
  | _, _, .nil, _ => ⟨[], rfl, fun b hb => by cases hb⟩
  | _, _, .cons h r, t => by
    obtain ⟨b, x, y, z, rfl, hb⟩ := triple_of h (t _ List.mem_cons_self)
    obtain ⟨dc, rfl, hd⟩ := triples_of r fun d hd => t d (List.mem_cons_of_mem _ hd)
    exact ⟨b :: dc, rfl, fun c hc => by
      rcases List.mem_cons.mp hc with z' | z'
      · rw [z']; exact ⟨x, y, z, hb⟩
      · exact hd c z'⟩
theorem ps_dices {i n : Nat} {wi : PW} {bw : SW} (hp : PassesOwn (model X.prog X.w) X.A X.env X.xe) (hc : X.calm = true) (hin : i < n) (hi : DE T X W iter wi) (hg : PG X tg (gName i)) (hb : ∀ dc, DSs { T with dc := dc } X W body bw)
    (hs : ∀ x, foldedSetIterable iter X.env x = pure x := by intro _; rfl) : PS X (.For tg iter body [] pos) (tDices T X.K W wi i n bw) :=
  ps_mono (ps_for hp hc (pi_list hi.pe) hg (tb := fun D σ H => ∃ dc, liftS { T with dc := dc } X.K W bw D σ H) ⟨fun pins s σ H Q I ⟨dc, q⟩ => (hb dc).ps.run pins s σ H Q I q⟩ hs) fun D σ H q => by
    obtain ⟨G, ρ, r, hn, hdc, q, qn, qr⟩ := q
    refine ⟨G, ρ, r, hi.mono _ _ _ _ _ (fun d hd v H1 r1 a1 => ?_) (fun _ z => z.elim) q⟩
    obtain ⟨ds, rfl, tr, hw⟩ := hd
    cases a1 with
    | lst h1 h2 =>
      rename_i a vs
      obtain ⟨dc, rfl, hd⟩ := triples_of h2 tr
      obtain ⟨naO, hA⟩ := hide_some h1
      have nad : a ∉ dc := fun z => by
        obtain ⟨x, y, u, e⟩ := hd a z
        rw [h1] at e
        cases dc with
        | nil => cases z
        | cons c t => cases e
      let Hb : Hp := fun b => if b = a then some (.lst (dc.map V.ref)) else none
      have r2 : Rep { T with dc := dc } X.K ⟨Hb, G.O ++ dc, []⟩ (uns n) σ H1 := {
        len := (r1.forget hn).len
        slot := fun i s hs => by
          obtain ⟨v, h3, h4⟩ := (r1.forget hn).slot i s hs
          have hi : i < n := by
            have := (List.getElem?_eq_some_iff.mp hs).1
            rwa [uns, List.length_replicate] at this
          rw [uns, List.getElem?_replicate, if_pos hi] at hs
          cases hs
          exact ⟨v, h3, trivial⟩
        sep := (r1.forget hn).sep
        tab := ⟨r1.tab.g, r1.tab.l⟩
        ext := fun b o hb _ => by
          have hb : Hb b = some o := hb
          show hide (G.O ++ dc) H1 b = some o
          by_cases z : b = a
          · subst z
            rw [show Hb b = some (.lst (dc.map V.ref)) from if_pos rfl] at hb
            cases hb
            rw [hide_out (fun z => (List.mem_append.mp z).elim naO nad)]
            exact hA
          · rw [show Hb b = none from if_neg z] at hb
            cases hb
        dom := fun b hb => by
          rcases List.mem_append.mp hb with z | z
          · exact r1.dom b z
          · obtain ⟨x, y, u, e⟩ := hd b z
            exact ⟨_, (hide_some e).2, fun ps e => by cases e⟩
        fly := fun p hp => by cases hp
        dcs := fun b hb => ⟨List.mem_append_right _ hb, by obtain ⟨x, y, u, e⟩ := hd b hb; exact ⟨x, y, u, (hide_some e).2⟩, fun q hq => by cases hq⟩ }
      refine ⟨a, rfl, ⟨_, SqL.of hA⟩, fun k m σ' H' => m = dc.length - k ∧ ∃ O', Rep { T with dc := dc } X.K ⟨Hb, O', []⟩ (uns n) σ' H', ⟨_, rfl, _, r2⟩, fun k m σ' H' hW => ?_⟩
      obtain ⟨rfl, O', r3⟩ := hW
      have hA' : H' a = some (.lst (dc.map V.ref)) := (hide_some (r3.ext a _ (if_pos rfl) fun ps e => by cases e)).2
      by_cases hk : k < dc.length
      · have hx : (dc.map V.ref)[k]? = some (V.ref dc[k]) := by rw [List.getElem?_map, List.getElem?_eq_getElem hk]; rfl
        refine .inr ⟨⟨_, _, SqL.of hA', hx⟩, fun σ'' H'' => ∃ O'', Rep { T with dc := dc } X.K ⟨Hb, O'', []⟩ (uns n) σ'' H'', fun σ'' H'' h => ⟨dc.length - (k + 1), by omega, rfl, h⟩, fun x H3 hy => ?_⟩
        obtain ⟨rfl, hx2⟩ := hy
        have ex : x = V.ref dc[k] := Option.some.inj ((hx2 _ (SqL.of hA')).symm.trans hx)
        subst ex
        have r4 := r3.setSl (i := i) (v := V.ref dc[k]) (s := .dice) ⟨dc[k], rfl, List.getElem_mem hk⟩ (fun z => by cases z)
        refine ⟨dc, ⟨Hb, O', []⟩, _, r4, (fun q hq => by cases hq), (hb dc).mono _ (lawEnd n) _ ⟨fun ρ3 h3 σ3 H3 O3 r5 _ => ⟨O3, r5.forget h3⟩, fun d hd v ρ3 σ3 H3 O3 r5 a5 => ?_, fun _ z => z.elim, fun ρ3 h3 σ3 H3 O3 r5 _ => ⟨O3, r5.forget h3⟩, fun _ z => z.elim, fun _ z => z.elim⟩ hw⟩
        have hd : d = .bool true := hd
        subst hd
        cases a5
        exact qr H3
      · refine .inl ⟨⟨_, SqL.of hA', by rw [List.length_map]; omega⟩, qn _ _⟩
    | _ => cases ‹PyData.list ds = _›
theorem law_okD {P : Program} {w : World} {mg : Str → Option Value} {base : Heap} {st : Stmt} {f c : Addr} {fd : FuncData} {N : List Str} {k i j : Nat} {wi : PW} {bw : SW} (F : FunC K "law" st f c fd) (S : FnScope N ["script"] (defScope st)) (hN : 0 < N.length) (hin : i < N.length) (hdc : T.dc = [])
    (htx : defBody st = [.For tg iter body [] pos, .Return (some (.Constant (.bool true) j p)) p2])
    (hi : ∀ (A : Around) (outer : List Env) (s : Shared) (H : Hp) (E : XK), Room k (A.deeper (envOfC "law" (defScope st) s.heap.objs.size f (.ref c))) → DE T (cxOf (L2.CX P w) P w K mg base N "law" (defScope st) f (.ref c) A outer s H E) (fun cls d _ H => E cls d H) iter wi)
    (hg : ∀ (A : Around) (outer : List Env) (s : Shared) (H : Hp) (E : XK), PG (cxOf (L2.CX P w) P w K mg base N "law" (defScope st) f (.ref c) A outer s H E) tg (gName i))
    (hb : ∀ (A : Around) (outer : List Env) (s : Shared) (H : Hp) (E : XK) dc, Room k (A.deeper (envOfC "law" (defScope st) s.heap.objs.size f (.ref c))) → DSs { T with dc := dc } (cxOf (L2.CX P w) P w K mg base N "law" (defScope st) f (.ref c) A outer s H E) (fun cls d _ H => E cls d H) body bw)
    (hs : ∀ (A : Around) (outer : List Env) (s : Shared) (H : Hp) (E : XK) x, foldedSetIterable iter (cxOf (L2.CX P w) P w K mg base N "law" (defScope st) f (.ref c) A outer s H E).env x = pure x := by intros; rfl)
    (hpure : ∀ ns : List Int, ns.length ≤ 63 → wi (.scr ns :: uns (N.length - 1)) (fun d => ∃ ds, d = .list ds ∧ Triples ds ∧ bw ((uns N.length).set i .dice) (lawEnd N.length)) (fun _ => False)) :
    FnOk P w K mg base (L2.CX P w) (k + 1) f fd ["script"] (fun vs H Q _ => ∃ (a : Addr) (ns : List Int), vs = [.ref a] ∧ ns.length ≤ 63 ∧ SqL K H a (ns.map V.int) ∧ TOk T H ∧ ∀ H', Q (.bl true) H') := by
  refine F.okX S (fun vs H Q E h => ?_) (fun A outer s H vs Q E hr h => ?_)
  · obtain ⟨a, ns, rfl, _⟩ := h
    rfl
  · obtain ⟨a, ns, rfl, hl, hS, ht, hQ⟩ := h
    rw [htx]
    refine ⟨_, pss_cons (ps_dices (T := T) (n := N.length) (passes_of rfl) rfl hin (hi A outer s H E hr) (hg A outer s H E) (fun dc => hb A outer s H E dc hr) (hs A outer s H E)) (pss_one (ps_ret pe_bl)), ?_⟩
    refine ⟨⟨fun _ => none, [], []⟩, .scr ns :: uns (N.length - 1), ?_, ?_, hdc, hpure ns hl, fun σ' H' => hQ H', fun H' => hQ H'⟩
    · have e : L2.start N [V.ref a] = ([V.ref a].map some) ++ List.replicate (N.length - 1) none := rfl
      rw [e]
      refine Rep.more (ρ := [.scr ns]) ⟨rfl, fun i s hs => ?_, fun i j s t b hij hi hj hs ht => ?_, ht, (fun b o e _ => by cases e), (fun b hb => by cases hb), (fun p hp => by cases hp), (fun b hb => by rw [hdc] at hb; cases hb)⟩ _
      · cases i with
        | zero =>
          cases hs
          exact ⟨_, rfl, a, rfl, by rw [hide_nil]; exact hS⟩
        | succ i => simp at hs
      · cases i with
        | zero => cases hi; cases hs
        | succ i => simp at hi
    · rw [List.length_cons, uns, List.length_replicate]
      omega
end
end PL
set_option Elab.async false
set_option linter.all false
set_option maxRecDepth 100000
set_option maxHeartbeats 2000000
namespace PL
open PySem PySem.Spec PyProof.Rows L2 LamX
/-- as the end for the law's own table, for every def's -/
theorem walk_all {l : PySem.W.OpenLaw} {n k : Nat} {q : Program} {loose : List Str} {XP : (Str → Option Value) → Heap → Prop} {YP : World → Heap → Prop} {d : DefRec} {K : Params → PySem.W.Frag} {CX : World → CXT} {x : Str}
    (hn : l.most = some n) (hn2 : n ≤ sizeLine) (hdf : d.params.defaults = []) (hr : Room k callerA) (hY : ∀ (w : World) (h : Heap), YP w h → (K w.params).In h)
    (F : ∀ (w : World) (mg : Str → Option Value) (fa : Addr) (h : Heap), YP w h → (K w.params).In h → h.Ns mainGlobals mg → mg d.name = some (.ref fa) →
      (∀ (y : Str) (f : Addr), ((recsOf q).any fun e => e.name == y) = true → mg y = some (.ref f) → OwnTab (K w.params) f h) → LawAtS l w (K w.params) (CX w) k n x mg fa h)
    (hCX : ∀ (w : World) (H : Hp) (s : Shared) (e : Value) (s' : Shared), CX w [] H s (fun _ _ _ => False) e s' → False) : PySem.W.WalkO q loose XP YP l.row.toRowW d [] (fun f vs => PySem.call f vs) := by
  refine Att.attach_callB hn hdf fun w s₀ s₁ mg mb fa o pm cd doc a vs ns G Y ho hd hcd hmg hobj hints hlen hbits hg => ?_
  have KX := hY w _ Y
  obtain ⟨fd, cs, sp, hT, nT, C, hb, hsp, hF⟩ := F w mg fa _ Y KX G.T.g hmg fun y f hy hmy c P o1 fd1 e dd vs1 sl k1 k2 k3 k4 k5 => by
    obtain ⟨dL, hm, he⟩ := List.any_eq_true.mp hy
    obtain ⟨a', o', fd', c', P', h1, h2, h3, h4, h5, ⟨⟨oc, vc, e1, _, e3, e4⟩, hP⟩⟩ := G.T.tab dL hm
    rw [beq_iff_eq.mp he, hmy] at h1; cases h1
    rw [KX _ _ k1] at h2; cases h2
    rw [k2] at h3; cases h3
    rw [k3] at h4; cases h4
    rw [KX _ _ k4] at e1; cases e1
    cases e3
    rw [k5] at e4; cases e4
    exact hP
  exact law_callTs KX G.T.g G.T.b G.T.builtins G.T.nolimit hg hT nT C G.T.bmain hobj hints (Nat.le_trans hlen hn2) hr hF hb (fun H hH hS => hsp H a ns hlen hbits hH hS) fun H e s' => hCX w H s₁ e s'
/-- what the top has written of a def -/
structure DefF (K : PySem.W.Frag) (x : Str) (st : Stmt) (f c : Addr) (fd : FuncData) : Prop where
  ns : PySem.W.nsIn K mainGlobals x = some (some (.ref f))
  F : FunC K x st f c fd
theorem def_mk {K : PySem.W.Frag} {x : Str} {st : Stmt} {f c : Addr} {oc : Value} {od an : Option Addr} {osl : Array (Option Value)} {kV doc pm ct : Value} (a : PySem.W.nsIn K mainGlobals x = some (some (.ref f))) (l : K.lookup f = some ⟨oc, od, .func (PySem.W.fnOf x x (defArgs st) (defBody st) (defScope st) .none kV doc pm an (.ref c) ct), osl⟩)
    (h : PySem.W.codeIn K (.ref c) x = true) (k : PySem.W.keepIn K (.ref f) = true) : DefF K x st f c (PySem.W.fnOf x x (defArgs st) (defBody st) (defScope st) .none kV doc pm an (.ref c) ct) := ⟨a, ⟨⟨oc, od, kV, doc, pm, an, ct, osl, rfl, l, h⟩, k⟩⟩
/-- .. and of its table -/
structure TabF (K : PySem.W.Frag) (c P : Addr) : Prop where
  ex : ∃ (e : Value) (dd : Option Addr) (vs : Array Value) (sl : Array (Option Value)), K.lookup c = some ⟨e, dd, .fields vs, sl⟩ ∧ vs[11]? = some (.ref P)
  hd : PySem.W.codeHdIn K c P = true
  out : K.lookup P = none
theorem TabF.empty {K : PySem.W.Frag} {x : Str} {st : Stmt} {f c P : Addr} {fd : FuncData} {h : Heap} (t : TabF K c P) (F : FunC K x st f c fd) (o : OwnTab K f h) : h.get? P = some { cls := .none, data := .fields #[] } := by
  obtain ⟨e, dd, vs, sl, h1, h2⟩ := t.ex
  obtain ⟨oc, od, kV, doc, pm, an, ct, osl, rfl, lk, hcd⟩ := F.ex
  exact o c P _ _ e dd vs sl lk rfl rfl h1 h2
theorem tab_mk {K : PySem.W.Frag} {c P : Addr} {e : Value} {dd : Option Addr} {vs : Array Value} {sl : Array (Option Value)} (a : K.lookup c = some ⟨e, dd, .fields vs, sl⟩) (b : vs[11]? = some (.ref P)) (h : PySem.W.codeHdIn K c P = true) (o : K.lookup P = none) : TabF K c P := ⟨⟨e, dd, vs, sl, a, b⟩, h, o⟩
/-- what the top has written of an error's class -/
structure ExcF (K : PySem.W.Frag) (x : Str) (C : Addr) : Prop where
  ns : PySem.W.nsIn K mainGlobals x = some (some (.ref C))
  kp : PySem.W.keepIn K (.ref C) = true
  sub : PySem.W.subIn K (.ref C) (.type "BaseException") = some true
  ty : PySem.W.typeIn K (.ref C) = some (.type "type")
end PL
set_option Elab.async false
set_option linter.all false
set_option maxRecDepth 100000
set_option maxHeartbeats 2000000
namespace PL
open PySem PySem.Spec PyProof.Rows L2
/-! what the printed texts use -/
def blkB (N : List Str) (sc scope : Scope) (own : List (Str × Nat)) : Bool :=
  decide (scope.kind = .function) && scope.names.all (fun y => scope.names.lookup y.1 == some y.2) && own.all (fun p => N[p.2]? == some p.1) &&
  scope.names.all (fun y => !(y.2 == .free) || sc.names.lookup y.1 == some .cell || sc.names.lookup y.1 == some .free) && scope.names.all (fun y => !(y.2 == .local || y.2 == .cell) || (own.map (·.1)).contains y.1 || !N.contains y.1)
theorem blk_by {N : List Str} {sc scope : Scope} {own : List (Str × Nat)} (h : blkB N sc scope own = true) : BlkOk N sc scope own := by
  unfold blkB at h
  simp only [Bool.and_eq_true, List.all_eq_true, decide_eq_true_eq, Bool.or_eq_true, Bool.not_eq_true', beq_iff_eq, beq_eq_false_iff_ne, ne_eq] at h
  obtain ⟨⟨⟨⟨h1, h2⟩, h3⟩, h4⟩, h5⟩ := h
  refine ⟨h1, h2, h3, fun y hy e => ?_, fun y hy e => ?_⟩
  · rcases h4 y hy with (z | z) | z
    · exact absurd e z
    · exact .inl z
    · exact .inr z
  · rcases h5 y hy with (z | z) | z
    · rcases e with e | e <;> rw [e] at z <;> cases z
    · exact .inl (by simpa using z)
    · exact .inr (by simpa using z)
theorem nocell_by {scope : Scope} (h : scope.names.all (fun y => !(y.2 == .cell)) = true) : ∀ y ∈ scope.names, y.2 ≠ .cell := by
  simp only [List.all_eq_true, Bool.not_eq_true', beq_eq_false_iff_ne, ne_eq] at h
  exact h
def fAddS : PyData → PyData → (PyData → Prop) → Prop := fun x y Q => match x, y with | .int i, .int j => Q (.int (i + j)) | .str x, .str y => x.length + y.length ≤ sizeLine ∧ Q (.str (x ++ y)) | _, _ => False
theorem mono_addS : MonoF fAddS := fun x y Q Q' hq h => by
  unfold fAddS at h ⊢
  split at h
  · exact hq _ h
  · exact ⟨h.1, hq _ h.2⟩
  · exact h
def fIsN : PyData → PyData → (PyData → Prop) → Prop := fun x y Q => y = .none ∧ Q (.bool (isN x))
def fNotN : PyData → PyData → (PyData → Prop) → Prop := fun x y Q => y = .none ∧ Q (.bool (!isN x))
theorem mono_isN : MonoF fIsN := fun x y Q Q' hq h => ⟨h.1, hq _ h.2⟩
theorem mono_notN : MonoF fNotN := fun x y Q Q' hq h => ⟨h.1, hq _ h.2⟩
theorem hTB (K : PySem.W.Frag) (H : Hp) (v : V) (y : Bool) (h : Da K H v (.bool y)) : v = .bl y := h.bl_
theorem hTI (K : PySem.W.Frag) (H : Hp) (v : V) (y : Int) (h : Da K H v (.int y)) : v = .int y := h.int_
def lawIter : Stmt → Expr := fun st => match defBody st with
  | .For _ it _ _ _ :: _ => it
  | _ => .Constant .none 0 ⟨0, 0, 0, 0⟩
def lawBody : Stmt → List Stmt := fun st => match defBody st with
  | .For _ _ b _ _ :: _ => b
  | _ => []
section
variable {T : Tb} {X : Cx} {W : WX} {pos : Pos} {a : Expr}
def wNeg (w : PW) : PW := fun ρ Q E => w ρ (fun d => match d with | .int i => Q (.int (-i)) | _ => False) E
theorem de_neg {w : PW} (h : DE T X W a w) : DE T X W (.UnaryOp .USub a pos) (wNeg w) := ⟨pe_mono (pe_un un_neg h.pe) fun σ H Q q => by
  obtain ⟨G, ρ, r, q⟩ := q
  refine ⟨G, ρ, r, h.mono _ _ _ _ _ (fun d hd v H' r' a => ?_) (fun _ z => z) q⟩
  cases a with
  | int i => exact ⟨i, rfl, hd _ H' r' (.int _)⟩
  | _ => exact hd.elim, fun ρ Q Q' E E' hq he q => h.mono _ _ _ _ _ (fun d hd => by cases d <;> first | exact hq _ hd | exact hd) he q⟩
end
end PL
namespace PL
open PySem in
theorem gxTab {base : Heap} {mg : Str → Option Value} {c P : Addr} (b : LamX.TabB base mg c P) : GxR.TabB base mg c P := ⟨b.code, b.bm, b.gP⟩
end PL

namespace PL
open PySem in
theorem apart3 {K : PySem.W.Frag} {c1 c2 c3 : Addr} (n12 : c1 ≠ c2) (n13 : c1 ≠ c3) (n23 : c2 ≠ c3) (e11 : PySem.W.exmOne K (.ref c1) (.ref c1) = some true) (e12 : PySem.W.exmOne K (.ref c1) (.ref c2) = some false) (e13 : PySem.W.exmOne K (.ref c1) (.ref c3) = some false)
    (e21 : PySem.W.exmOne K (.ref c2) (.ref c1) = some false) (e22 : PySem.W.exmOne K (.ref c2) (.ref c2) = some true) (e23 : PySem.W.exmOne K (.ref c2) (.ref c3) = some false) (e31 : PySem.W.exmOne K (.ref c3) (.ref c1) = some false) (e32 : PySem.W.exmOne K (.ref c3) (.ref c2) = some false) (e33 : PySem.W.exmOne K (.ref c3) (.ref c3) = some true) : Apart K [c1, c2, c3] := by
  intro a ha b hb
  simp only [List.mem_cons, List.not_mem_nil, or_false] at ha hb
  rcases ha with rfl | rfl | rfl <;> rcases hb with rfl | rfl | rfl <;> first | (rw [decide_eq_true rfl]; assumption) | (rw [decide_eq_false (by first | assumption | exact Ne.symm ‹_›)]; assumption)
end PL
set_option Elab.async false
set_option linter.all false
set_option maxRecDepth 100000
set_option maxHeartbeats 2000000
namespace PL
open PySem PySem.Spec PyProof.Rows L2
open LamX (ExtN Tabs TabS)
/-! ### an object of ours that changes, of any kind -/
section
variable {T : Tb} {X : Cx} {W : WX} {pos p pos' apos cpos : Pos} {e a b c : Expr} {es : List Expr} {st : Stmt} {K : PySem.W.Frag} {G G2 : Gh} {ρ ρ2 : En} {σ σ2 : L2.St} {H H' : Hp} {D : Ends}
theorem Rep.wrO (r : Rep T K G ρ σ H) {i : Nat} {s0 s' : Sl} {a : Addr} {o o' : HO} (hi : ρ[i]? = some s0) (h0 : s0.owned = true) (hv : σ[i]? = some (some (.ref a))) (ha : Own T.dc G.O a) (h1 : H a = some o) (hc : Cont o) (ho : ∀ ps, o' ≠ .tbl ps) (hs' : s'.owned = true)
    (hx : ∀ H2, hide G.O H2 = hide G.O H → H2 a = some o' → SlOk K T.dc G.O H2 s' (some (.ref a))) (hfl : ∀ q ∈ G.fl, q.1 ≠ a) : Rep T K G (ρ.set i s') σ (upd H a o') := by
  have eh : hide G.O (upd H a o') = hide G.O H := hide_upd ha.1
  have hil : i < ρ.length := (List.getElem?_eq_some_iff.mp hi).1
  refine ⟨by rw [List.length_set]; exact r.len, fun j s hs => ?_, fun j k s t b hjk hj hk hs ht e1 e2 => ?_, r.tab.upd h1 hc, by rw [eh]; exact r.ext, fun b hb => ?_, fun q hq => ?_, fun b hb => ⟨(r.dcs b hb).1, by rw [upd_ne fun z => ha.2 (by rw [← z]; exact hb)]; exact (r.dcs b hb).2.1, (r.dcs b hb).2.2⟩⟩
  · by_cases e : i = j
    · subst e
      rw [List.getElem?_set_self hil] at hs
      cases hs
      exact ⟨_, hv, hx _ eh upd_same⟩
    · rw [List.getElem?_set_ne e] at hs
      obtain ⟨u, h2, h3⟩ := r.slot j s hs
      have ne : ∀ b, s.owned = true → u = some (.ref b) → b ≠ a := fun b hw eu z => by
        rw [eu, z] at h2
        exact r.sep i j _ s a e hi hs h0 hw hv h2
      refine ⟨u, h2, ?_⟩
      cases s with
      | un => trivial
      | sh d => obtain ⟨x, h4, h5⟩ := h3; exact ⟨x, h4, by rw [eh]; exact h5⟩
      | ol _ => obtain ⟨b, us, h4, h5, h6, h7⟩ := h3; exact ⟨b, us, h4, h5, by rw [upd_ne (ne b rfl h4)]; exact h6, by rw [eh]; exact h7⟩
      | ok _ => obtain ⟨b, us, h4, h5, h6, h7, h8⟩ := h3; exact ⟨b, us, h4, h5, by rw [upd_ne (ne b rfl h4)]; exact h6, h7, by rw [eh]; exact h8⟩
      | ot _ => obtain ⟨b, us, h4, h5, h6, h7, h8⟩ := h3; exact ⟨b, us, h4, h5, by rw [upd_ne (ne b rfl h4)]; exact h6, h7, by rw [eh]; exact h8⟩
      | dice => exact h3
      | scr ns => obtain ⟨b, h4, h5⟩ := h3; exact ⟨b, h4, by rw [eh]; exact h5⟩
  · have own : ∀ {l : Nat} {u : Sl}, (ρ.set i s')[l]? = some u → u.owned = true → ∃ u', ρ[l]? = some u' ∧ u'.owned = true := fun {l u} hl hu => by
      by_cases e : i = l
      · subst e; exact ⟨_, hi, h0⟩
      · rw [List.getElem?_set_ne e] at hl; exact ⟨u, hl, hu⟩
    obtain ⟨s1, hj', hs'⟩ := own hj hs
    obtain ⟨t', hk', ht'⟩ := own hk ht
    exact r.sep j k s1 t' b hjk hj' hk' hs' ht' e1 e2
  · by_cases z : b = a
    · rw [z, upd_same]; exact ⟨_, rfl, ho⟩
    · rw [upd_ne z]; exact r.dom b hb
  · obtain ⟨h2, h3⟩ := r.fly q hq
    exact ⟨h2, by rw [upd_ne (hfl q hq)]; exact h3⟩
/-! ### keys -/
def keyOf : PyData → Option Key
  | .int i => some (.inl i)
  | .str x => some (.inr x)
  | _ => none
def keysOf : List PyData → Option (List Key)
  | [] => some []
  | d :: r => match keyOf d, keysOf r with
    | some k, some ks => some (k :: ks)
    | _, _ => none
def keyT : PyData → Option (List Key)
  | .tuple ds => keysOf ds
  | _ => none
/-- a key that is no empty tuple -/
def keyTn : PyData → Option (List Key)
  | .tuple (d :: ds) => keysOf (d :: ds)
  | _ => none
theorem keyTn_K (k : Key) : keyTn (keyD k) = none := by cases k <;> rfl
theorem keyOf_da {v : V} {d : PyData} {k : Key} (h : Da K H v d) (e : keyOf d = some k) : v = kV k := by
  cases h <;> simp [keyOf] at e <;> subst e <;> rfl
theorem keysOf_da : ∀ {vs : List V} {ds : List PyData} {ks : List Key}, DaAll K H vs ds → keysOf ds = some ks → vs = ks.map kV
  | _, _, ks, .nil, e => by cases e; rfl
  | _, _, ks, .cons (v := v) (vs := vs) (d := d) (ds := ds) h r, e => by
    simp only [keysOf] at e
    cases h1 : keyOf d with
    | none => rw [h1] at e; cases e
    | some k =>
      cases h2 : keysOf ds with
      | none => rw [h1, h2] at e; cases e
      | some ks' =>
        rw [h1, h2] at e
        cases e
        rw [keyOf_da h h1, keysOf_da r h2]
        rfl
theorem keyOf_is {d : PyData} {k : Key} (e : keyOf d = some k) : d = keyD k := by
  cases d <;> simp [keyOf] at e <;> subst e <;> rfl
theorem keysOf_all : ∀ {ds : List PyData} {ks : List Key}, keysOf ds = some ks → ∀ d ∈ ds, ∃ k, d = keyD k
  | d :: ds, ks, e, x, hx => by
    simp only [keysOf] at e
    cases h1 : keyOf d with
    | none => rw [h1] at e; cases e
    | some k =>
      cases h2 : keysOf ds with
      | none => rw [h1, h2] at e; cases e
      | some ks' =>
        rcases List.mem_cons.mp hx with rfl | hx
        · exact ⟨k, keyOf_is h1⟩
        · exact keysOf_all h2 x hx
theorem keyT_da {v : V} {d : PyData} {k : List Key} (h : Da K H v d) (e : keyTn d = some k) : ∃ b, v = .ref b ∧ H b = some (.tup (k.map kV)) := by
  cases h with
  | tup h1 h2 =>
    rename_i ds
    cases ds with
    | nil => cases e
    | cons d ds => exact ⟨_, rfl, by rw [h1, keysOf_da h2 e]⟩
  | ftup h1 h2 h3 h4 =>
    rename_i ds
    cases ds with
    | nil => cases e
    | cons d ds =>
      rcases h3 with h3 | ⟨x, hx, hn⟩
      · cases h3
      · obtain ⟨k', ek⟩ := keysOf_all e x hx
        exact absurd ek (hn k')
  | _ => cases e
/-! ### what a dict holds, by data -/
def lookK {κ : Type} [DecidableEq κ] (kvs : List (κ × PyData)) (k : κ) : Option PyData := (kvs.find? fun p => decide (p.1 = k)).map (·.2)
def putD {κ : Type} [DecidableEq κ] (kvs : List (κ × PyData)) (k : κ) (d : PyData) : List (κ × PyData) :=
  if (kvs.any fun p => decide (p.1 = k)) = true then kvs.map (fun p => if p.1 = k then (p.1, d) else p) else kvs ++ [(k, d)]
theorem look_da {κ : Type} [DecidableEq κ] {k : κ} : ∀ {vs : List (κ × V)} {kvs : List (κ × PyData)}, vs.map (·.1) = kvs.map (·.1) → DaAll K H (vs.map (·.2)) (kvs.map (·.2)) →
    (∃ v d, valV vs k = some v ∧ lookK kvs k = some d ∧ Da K H v d) ∨ (valV vs k = none ∧ lookK kvs k = none)
  | [], [], _, _ => .inr ⟨rfl, rfl⟩
  | [], _ :: _, e, _ => by cases e
  | _ :: _, [], e, _ => by cases e
  | p :: r, q :: t, e, h => by
    injection e with e1 e2
    cases h with
    | cons h1 h2 =>
      by_cases z : q.1 = k
      · exact .inl ⟨p.2, q.2, valV_pos (e1.trans z), by simp [lookK, List.find?_cons, z], h1⟩
      · rw [valV_neg (fun y => z (e1.symm.trans y)), show lookK (q :: t) k = lookK t k by simp [lookK, List.find?_cons, z]]
        exact look_da e2 h2
theorem put_da {κ : Type} [DecidableEq κ] {k : κ} {v : V} {d : PyData} (hd : Da K H v d) {vs : List (κ × V)} {kvs : List (κ × PyData)} (e : vs.map (·.1) = kvs.map (·.1)) (h : DaAll K H (vs.map (·.2)) (kvs.map (·.2))) :
    (putK vs k v).map (·.1) = (putD kvs k d).map (·.1) ∧ DaAll K H ((putK vs k v).map (·.2)) ((putD kvs k d).map (·.2)) := by
  have hany : (vs.any fun p => decide (p.1 = k)) = (kvs.any fun p => decide (p.1 = k)) := by
    have : (vs.map (·.1)).any (fun x => decide (x = k)) = (kvs.map (·.1)).any (fun x => decide (x = k)) := by rw [e]
    rwa [List.any_map, List.any_map] at this
  unfold putK putD
  rw [hany]
  by_cases c : (kvs.any fun p => decide (p.1 = k)) = true
  · rw [if_pos c, if_pos c]
    have key : ∀ (vs : List (κ × V)) (kvs : List (κ × PyData)), vs.map (·.1) = kvs.map (·.1) → DaAll K H (vs.map (·.2)) (kvs.map (·.2)) → (vs.map fun kv => if kv.1 = k then (kv.1, v) else kv).map (·.1) = (kvs.map fun p => if p.1 = k then (p.1, d) else p).map (·.1) ∧ DaAll K H ((vs.map fun kv => if kv.1 = k then (kv.1, v) else kv).map (·.2)) ((kvs.map fun p => if p.1 = k then (p.1, d) else p).map (·.2)) := by
      intro vs
      induction vs with
      | nil => intro kvs e h; cases kvs with
        | nil => exact ⟨rfl, .nil⟩
        | cons _ _ => cases e
      | cons q r ih => intro kvs e h; cases kvs with
        | nil => cases e
        | cons q' t =>
          injection e with e1 e2
          cases h with
          | cons h1 h2 =>
            obtain ⟨i1, i2⟩ := ih t e2 h2
            have e1 : q.1 = q'.1 := e1
            simp only [List.map_cons]
            by_cases z : q'.1 = k
            · rw [if_pos z, if_pos (e1.trans z)]
              exact ⟨by rw [i1, e1], .cons hd i2⟩
            · rw [if_neg z, if_neg (fun y => z (e1.symm.trans y))]
              exact ⟨by rw [i1, e1], .cons h1 i2⟩
    exact key vs kvs e h
  · rw [if_neg c, if_neg c]
    simp only [List.map_append, List.map_cons, List.map_nil]
    exact ⟨by rw [e], h.append (.cons hd .nil)⟩
/-! ### d[k] = v, d ours -/
def sPut (i : Nat) (wk w : PW) : SW := fun ρ D => match ρ[i]? with
  | some (.ok kvs) => w ρ (fun d => wk ρ (fun k => ∃ key, keyOf k = some key ∧ kvs.length < sizeLine ∧ D.nx (ρ.set i (.ok (putD kvs key d)))) D.ex) D.ex
  | some (.ot kvs) => w ρ (fun d => wk ρ (fun k => ∃ key, keyTn k = some key ∧ kvs.length < sizeLine ∧ D.nx (ρ.set i (.ot (putD kvs key d)))) D.ex) D.ex
  | _ => False
theorem length_of_map {α β γ : Type} {f : α → γ} {g : β → γ} {xs : List α} {ys : List β} (h : xs.map f = ys.map g) : xs.length = ys.length := by
  have := congrArg List.length h
  rwa [List.length_map, List.length_map] at this
theorem ds_put {i : Nat} {w wk : PW} {k : Nat} (hr : Room k X.A) (ho : PE X a (tVar i)) (hk : DE T X W b wk) (h : DE T X W e w) (hs : swapsWith e (some (.Subscript a b pos')) pos.line X.env = pure false := by rfl) : DS T X W (.Assign [.Subscript a b pos'] e pos) (sPut i wk w) :=
  ⟨ps_mono (ps_dput (hu_of hr) ho hk.pe h.pe hs) fun D σ H q => by
    obtain ⟨G, ρ, r, fa, q⟩ := q
    unfold sPut at q
    split at q
    · rename_i kvs hd
      refine ⟨G, ρ, r, h.mono _ _ _ _ _ (fun d hd' v H1 r1 a1 => ?_) (fun _ z => ex_out' z) q⟩
      obtain ⟨u, h1, b, vs, rfl, h3, h4, h5, h6⟩ := r1.slot i _ hd
      refine ⟨_, h1, lift_intro hk.mono r1 (hk.mono _ _ _ _ _ (fun k hk' y H2 r2 e2 a2 => ?_) (fun _ z => ex_out' z) hd')⟩
      obtain ⟨key, ek, hl, q⟩ := hk'
      obtain ⟨v', h1', b', vs', e', h3', h4', h5', h6'⟩ := r2.slot i _ hd
      rw [h1] at h1'
      cases h1'
      cases e'
      rw [keyOf_da a2 ek]
      obtain ⟨p1, p2⟩ := put_da (k := key) (a1.ext e2) h5' h6'
      refine ⟨_, _, rfl, DPut.k h4' (by rw [length_of_map h5']; exact hl), ?_⟩
      exact q σ _ G.O (r2.wrO hd rfl h1 h3' h4' (.inr (.inl ⟨_, rfl⟩)) (fun ps z => by cases z) rfl (fun H3 eh hb => ⟨_, _, rfl, h3', hb, p1, by rw [eh]; exact p2⟩) fun q hq z => fa q hq i _ hd rfl (by rw [z]; exact h1)) (fa.wr hd rfl)
    · rename_i kvs hd
      refine ⟨G, ρ, r, h.mono _ _ _ _ _ (fun d hd' v H1 r1 a1 => ?_) (fun _ z => ex_out' z) q⟩
      obtain ⟨u, h1, b, vs, rfl, h3, h4, h5, h6⟩ := r1.slot i _ hd
      refine ⟨_, h1, lift_intro hk.mono r1 (hk.mono _ _ _ _ _ (fun k hk' y H2 r2 e2 a2 => ?_) (fun _ z => ex_out' z) hd')⟩
      obtain ⟨key, ek, hl, q⟩ := hk'
      obtain ⟨v', h1', b', vs', e', h3', h4', h5', h6'⟩ := r2.slot i _ hd
      rw [h1] at h1'
      cases h1'
      cases e'
      obtain ⟨kb, rfl, hkb⟩ := keyT_da a2 ek
      obtain ⟨p1, p2⟩ := put_da (k := key) (a1.ext e2) h5' h6'
      refine ⟨_, _, rfl, DPut.t h4' (hide_some hkb).2 (by rw [length_of_map h5']; exact hl), ?_⟩
      exact q σ _ G.O (r2.wrO hd rfl h1 h3' h4' (.inr (.inr ⟨_, rfl⟩)) (fun ps z => by cases z) rfl (fun H3 eh hb => ⟨_, _, rfl, h3', hb, p1, by rw [eh]; exact p2⟩) fun q hq z => fa q hq i _ hd rfl (by rw [z]; exact h1)) (fa.wr hd rfl)
    · exact q.elim, fun ρ D D' l q => by
    unfold sPut at q ⊢
    split at q
    · exact h.mono _ _ _ _ _ (fun d hd => hk.mono _ _ _ _ _ (fun k ⟨key, h1, h2, h3⟩ => ⟨key, h1, h2, l.nx _ h3⟩) l.ex hd) l.ex q
    · exact h.mono _ _ _ _ _ (fun d hd => hk.mono _ _ _ _ _ (fun k ⟨key, h1, h2, h3⟩ => ⟨key, h1, h2, l.nx _ h3⟩) l.ex hd) l.ex q
    · exact q⟩
end
end PL
set_option Elab.async false
set_option linter.all false
set_option maxRecDepth 100000
set_option maxHeartbeats 2000000
namespace PL
open PySem PySem.Spec PyProof.Rows L2
open LamX (ExtN Tabs TabS)
section
variable {T : Tb} {X : Cx} {W : WX} {pos p pos' apos cpos : Pos} {e a b c f : Expr} {es : List Expr} {st : Stmt} {K : PySem.W.Frag} {G G2 : Gh} {ρ ρ2 : En} {σ σ2 : L2.St} {H H' : Hp} {D : Ends}
/-! ### dicts read -/
def parseK : List (PyData × PyData) → Option (List (Key × PyData))
  | [] => some []
  | p :: r => match keyOf p.1, parseK r with
    | some k, some ks => some ((k, p.2) :: ks)
    | _, _ => none
def parseT : List (PyData × PyData) → Option (List (List Key × PyData))
  | [] => some []
  | p :: r => match keyT p.1, parseT r with
    | some k, some ks => some ((k, p.2) :: ks)
    | _, _ => none
theorem keyOf_keyD (k : Key) : keyOf (keyD k) = some k := by cases k <;> rfl
theorem keysOf_map : ∀ k : List Key, keysOf (k.map keyD) = some k
  | [] => rfl
  | x :: r => by rw [List.map_cons, keysOf, keyOf_keyD, keysOf_map r]
theorem keyT_keyD (k : List Key) : keyT (.tuple (k.map keyD)) = some k := keysOf_map k
theorem keyT_K (k : Key) : keyT (keyD k) = none := by cases k <;> rfl
theorem keyOf_T (ds : List PyData) : keyOf (.tuple ds) = none := rfl
theorem parseK_map : ∀ kvs : List (Key × PyData), parseK (kvs.map fun p => (keyD p.1, p.2)) = some kvs
  | [] => rfl
  | p :: r => by rw [List.map_cons, parseK, keyOf_keyD, parseK_map r]
theorem parseT_map : ∀ kvs : List (List Key × PyData), parseT (kvs.map fun p => (.tuple (p.1.map keyD), p.2)) = some kvs
  | [] => rfl
  | p :: r => by rw [List.map_cons, parseT, keyT_keyD, parseT_map r]
def atDc (ps : List (PyData × PyData)) (k : PyData) : Option (Option PyData) := match keyOf k with
  | some key => (parseK ps).map fun kvs => lookK kvs key
  | none => match keyTn k, ps with
    | some key, q :: r => (parseT (q :: r)).map fun kvs => lookK kvs key
    | _, _ => none
def atSl (s : Sl) (k : PyData) : Option (Option PyData) := match s with
  | .ok kvs => (keyOf k).map fun key => lookK kvs key
  | .ot kvs => (keyTn k).map fun key => lookK kvs key
  | .sh (.dict ps) => atDc ps k
  | _ => none
theorem zip_split {α : Type} {f : α → PyData} : ∀ {vs : List (α × V)} {ds : List PyData}, DaAll K H (vs.map (·.2)) ds → ∃ kvs : List (α × PyData), vs.map (·.1) = kvs.map (·.1) ∧ DaAll K H (vs.map (·.2)) (kvs.map (·.2)) ∧ (vs.map fun p => f p.1).zip ds = kvs.map fun p => (f p.1, p.2)
  | [], _, .nil => ⟨[], rfl, .nil, rfl⟩
  | p :: r, _, .cons (d := d) h t => by
    obtain ⟨kvs, h1, h2, h3⟩ := zip_split (f := f) (vs := r) t
    exact ⟨(p.1, d) :: kvs, by simp [h1], .cons h h2, by simp [h3]⟩
/-- d[k], as the machine has it -/
def Found (K : PySem.W.Frag) (O : List Addr) (H : Hp) (o : Option PyData) (o' : Option V) : Prop := match o, o' with
  | none, none => True
  | some d, some v => Da K (hide O H) v d
  | _, _ => False
theorem found_look {κ : Type} [DecidableEq κ] {O : List Addr} {k : κ} {vs : List (κ × V)} {kvs : List (κ × PyData)} (e : vs.map (·.1) = kvs.map (·.1)) (h : DaAll K (hide O H) (vs.map (·.2)) (kvs.map (·.2))) : Found K O H (lookK kvs k) (valV vs k) := by
  rcases look_da (k := k) e h with ⟨v, d, h1, h2, h3⟩ | ⟨h1, h2⟩
  · rw [h1, h2]; exact h3
  · rw [h1, h2]; trivial
theorem dc_get {O : List Addr} {v y : V} {ps : List (PyData × PyData)} {k : PyData} {o : Option PyData} (h : Da K (hide O H) v (.dict ps)) (hy : Da K (hide O H) y k) (ho : atDc ps k = some o) : ∃ a o', v = .ref a ∧ IsD H a ∧ DGet H a y o' ∧ Found K O H o o' := by
  unfold atDc at ho
  cases h with
  | dk h1 h2 =>
    obtain ⟨kvs, e1, e2, e3⟩ := zip_split (f := keyD) h2
    rw [e3, parseK_map] at ho
    cases ek : keyOf k with
    | some key =>
      rw [ek] at ho
      cases ho
      rw [keyOf_da hy ek]
      exact ⟨_, _, rfl, .inl ⟨_, .inl (hide_some h1).2⟩, DGet.k (hide_some h1).2, found_look e1 e2⟩
    | none =>
      rw [ek] at ho
      exfalso
      cases et : keyTn k with
      | none => rw [et] at ho; cases ho
      | some key =>
        rw [et] at ho
        cases kvs with
        | nil => cases ho
        | cons q r =>
          simp only [List.map_cons, parseT, keyT_K] at ho
          cases ho
  | dt h1 hne h2 =>
    obtain ⟨kvs, e1, e2, e3⟩ := zip_split (f := fun k => .tuple (k.map keyD)) h2
    rw [e3] at ho
    have ep := parseT_map kvs
    cases kvs with
    | nil =>
      exfalso
      have := length_of_map e1
      exact hne (List.length_eq_zero_iff.mp this)
    | cons q r =>
      rw [List.map_cons] at ep
      simp only [List.map_cons, ep] at ho
      cases ek : keyOf k with
      | some key =>
        rw [ek] at ho
        simp only [parseK, keyOf_T] at ho
        cases ho
      | none =>
        rw [ek] at ho
        cases et : keyTn k with
        | none => rw [et] at ho; cases ho
        | some key =>
          rw [et] at ho
          have ho : (parseT ((.tuple (q.1.map keyD), q.2) :: r.map fun p => (.tuple (p.1.map keyD), p.2))).map (fun kvs => lookK kvs key) = some o := ho
          rw [ep] at ho
          cases ho
          obtain ⟨kb, rfl, hkb⟩ := keyT_da hy et
          exact ⟨_, _, rfl, .inr ⟨_, .inl (hide_some h1).2⟩, DGet.t (hide_some h1).2 (hide_some hkb).2, found_look e1 e2⟩
/-- as dc_get, in a slot -/
theorem sl_get {D0 O : List Addr} {s : Sl} {u : Option V} {y : V} {k : PyData} {o : Option PyData} (h : SlOk K D0 O H s u) (hy : Da K (hide O H) y k) (ho : atSl s k = some o) : ∃ a o', u = some (.ref a) ∧ IsD H a ∧ DGet H a y o' ∧ Found K O H o o' := by
  unfold atSl at ho
  cases s with
  | ok kvs =>
    obtain ⟨a, vs, rfl, h2, h3, h4, h5⟩ := h
    cases ek : keyOf k with
    | none => rw [ek] at ho; cases ho
    | some key =>
      rw [ek] at ho
      cases ho
      rw [keyOf_da hy ek]
      exact ⟨_, _, rfl, .inl ⟨_, .inl h3⟩, DGet.k h3, found_look h4 h5⟩
  | ot kvs =>
    obtain ⟨a, vs, rfl, h2, h3, h4, h5⟩ := h
    cases ek : keyTn k with
    | none => rw [ek] at ho; cases ho
    | some key =>
      rw [ek] at ho
      cases ho
      obtain ⟨kb, rfl, hkb⟩ := keyT_da hy ek
      exact ⟨_, _, rfl, .inr ⟨_, .inl h3⟩, DGet.t h3 (hide_some hkb).2, found_look h4 h5⟩
  | sh d =>
    obtain ⟨x, rfl, h2⟩ := h
    cases d with
    | dict ps =>
      obtain ⟨a, o', rfl, h3, h4, h5⟩ := dc_get h2 hy ho
      exact ⟨a, o', rfl, h3, h4, h5⟩
    | _ => cases ho
  | _ => cases ho
def dIx (o : Option (Option PyData)) (Q : PyData → Prop) : Prop := match o with
  | some (some d) => Q d
  | _ => False
def dGet (o : Option (Option PyData)) (x : PyData) (Q : PyData → Prop) : Prop := match o with
  | some o => Q (o.getD x)
  | none => False
def dIn (neg : Bool) (o : Option (Option PyData)) (Q : PyData → Prop) : Prop := match o with
  | some o => Q (.bool (if neg then !o.isSome else o.isSome))
  | none => False
def Sl.isD : Sl → Bool
  | .ok _ => true
  | .ot _ => true
  | .sh (.dict _) => true
  | _ => false
def wDs (i : Nat) (F : Sl → PW) : PW := fun ρ Q E => match ρ[i]? with
  | some (.ok kvs) => F (.ok kvs) ρ Q E
  | some (.ot kvs) => F (.ot kvs) ρ Q E
  | some (.sh (.dict ps)) => F (.sh (.dict ps)) ρ Q E
  | _ => False
theorem wDs_elim {i : Nat} {F : Sl → PW} {Q : PyData → Prop} {E : Exn → Prop} (h : wDs i F ρ Q E) : ∃ s, ρ[i]? = some s ∧ s.isD = true ∧ F s ρ Q E := by
  unfold wDs at h
  split at h
  · exact ⟨_, by assumption, rfl, h⟩
  · exact ⟨_, by assumption, rfl, h⟩
  · exact ⟨_, by assumption, rfl, h⟩
  · exact h.elim
theorem mono_Ds {i : Nat} {F : Sl → PW} (m : ∀ s, Mono (F s)) : Mono (wDs i F) := fun ρ Q Q' E E' hq he h => by
  unfold wDs at h ⊢
  split at h
  · exact m _ _ _ _ _ _ hq he h
  · exact m _ _ _ _ _ _ hq he h
  · exact m _ _ _ _ _ _ hq he h
  · exact h
def wDIx (i : Nat) (wk : PW) : PW := wDs i fun s ρ Q E => wk ρ (fun k => dIx (atSl s k) Q) E
def wDGet (i : Nat) (wk wx : PW) : PW := wDs i fun s ρ Q E => wk ρ (fun k => wx ρ (fun x => dGet (atSl s k) x Q) E) E
def wDIn (neg : Bool) (i : Nat) (wk : PW) : PW := wDs i fun s ρ Q E => wk ρ (fun k => dIn neg (atSl s k) Q) E
theorem mono_dIx {o : Option (Option PyData)} {Q Q' : PyData → Prop} (hq : ∀ d, Q d → Q' d) (h : dIx o Q) : dIx o Q' := by
  unfold dIx at h ⊢
  split at h
  · exact hq _ h
  · exact h
theorem mono_dGet {o : Option (Option PyData)} {x : PyData} {Q Q' : PyData → Prop} (hq : ∀ d, Q d → Q' d) (h : dGet o x Q) : dGet o x Q' := by
  unfold dGet at h ⊢
  split at h
  · exact hq _ h
  · exact h
theorem mono_dIn {neg : Bool} {o : Option (Option PyData)} {Q Q' : PyData → Prop} (hq : ∀ d, Q d → Q' d) (h : dIn neg o Q) : dIn neg o Q' := by
  unfold dIn at h ⊢
  split at h
  · exact hq _ h
  · exact h
theorem slot_v {i : Nat} {s : Sl} (r : Rep T K G ρ σ H) (hd : ρ[i]? = some s) (hs : s.isD = true) : ∃ v, σ[i]? = some (some v) ∧ SlOk K T.dc G.O H s (some v) := by
  obtain ⟨u, h1, h2⟩ := r.slot i s hd
  cases s with
  | ok _ => have h2' := h2; obtain ⟨a, _, rfl, _⟩ := h2'; exact ⟨_, h1, h2⟩
  | ot _ => have h2' := h2; obtain ⟨a, _, rfl, _⟩ := h2'; exact ⟨_, h1, h2⟩
  | sh _ => have h2' := h2; obtain ⟨a, rfl, _⟩ := h2'; exact ⟨_, h1, h2⟩
  | _ => cases hs
theorem slot_isd {D0 O : List Addr} {s : Sl} {v : V} (h2 : SlOk K D0 O H s (some v)) (hs : s.isD = true) : ∃ a, v = .ref a ∧ IsD H a := by
  cases s with
  | ok _ => obtain ⟨a, vs, e, _, h4, _⟩ := h2; cases e; exact ⟨_, rfl, .inl ⟨_, .inl h4⟩⟩
  | ot _ => obtain ⟨a, vs, e, _, h4, _⟩ := h2; cases e; exact ⟨_, rfl, .inr ⟨_, .inl h4⟩⟩
  | sh d =>
    obtain ⟨x, e, h4⟩ := h2
    cases e
    cases d with
    | dict ps => cases h4 with
      | dk h5 _ => exact ⟨_, rfl, .inl ⟨_, .inl (hide_some h5).2⟩⟩
      | dt h5 _ _ => exact ⟨_, rfl, .inr ⟨_, .inl (hide_some h5).2⟩⟩
    | _ => cases hs
  | _ => cases hs
theorem slot_again {i : Nat} {s : Sl} {v : V} (r : Rep T K G ρ σ H) (hd : ρ[i]? = some s) (hv : σ[i]? = some (some v)) : SlOk K T.dc G.O H s (some v) := by
  obtain ⟨u, h1, h2⟩ := r.slot i s hd
  rw [h1] at hv
  cases hv
  exact h2
theorem de_dcx {i : Nat} {wk : PW} {k : Nat} (hr : Room k X.A) (ho : PE X a (tVar i)) (hk : DE T X W b wk) (hs : NoSl b) : DE T X W (.Subscript a b pos) (wDIx i wk) :=
  ⟨pe_mono (pe_dget (hu_of hr) ho hk.pe hs) fun σ H Q q => by
    obtain ⟨G, ρ, r, q⟩ := q
    obtain ⟨s, hd, hs, q⟩ := wDs_elim q
    obtain ⟨v, h1, h2⟩ := slot_v r hd hs
    refine ⟨v, h1, lift_intro hk.mono r (hk.mono _ _ _ _ _ (fun d hd' y H1 r1 e1 a1 => ?_) (fun _ z => z) q)⟩
    unfold dIx at hd'
    split at hd'
    · rename_i d' ho
      obtain ⟨a', o', e', g1, g2, g3⟩ := sl_get (slot_again r1 hd h1) a1 ho
      cases e'
      cases o' with
      | none => exact g3.elim
      | some v' => exact ⟨_, _, rfl, g2, hd' v' H1 r1 g3⟩
    · exact hd'.elim, mono_Ds fun s ρ Q Q' E E' hq he h => hk.mono _ _ _ _ _ (fun d hd => mono_dIx hq hd) he h⟩
theorem de_dcget {i : Nat} {wk wx : PW} {k : Nat} (hr : Room k X.A) (ho : PE X a (tVar i)) (hk : DE T X W b wk) (hx : DE T X W c wx) (m : M2 X a "get" apos b c cpos) : DE T X W (.Call (.Attribute a "get" apos) [b, c] [] cpos) (wDGet i wk wx) :=
  ⟨pe_mono (pe_dget2 (hu_of hr) ho hk.pe hx.pe m) fun σ H Q q => by
    obtain ⟨G, ρ, r, q⟩ := q
    obtain ⟨s, hd, hs, q⟩ := wDs_elim q
    obtain ⟨v, h1, h2⟩ := slot_v r hd hs
    obtain ⟨a', rfl, isd⟩ := slot_isd h2 hs
    refine ⟨_, h1, a', rfl, isd, lift_intro hk.mono r (hk.mono _ _ _ _ _ (fun kd hd' y H1 r1 e1 a1 => ?_) (fun _ z => z) q)⟩
    refine lift_intro hx.mono r1 (hx.mono _ _ _ _ _ (fun xd hx' z H2 r2 e2 a2 => ?_) (fun _ z => z) hd')
    unfold dGet at hx'
    split at hx'
    · rename_i o ho
      obtain ⟨a2', o', e', g1, g2, g3⟩ := sl_get (slot_again r2 hd h1) (a1.ext e2) ho
      cases e'
      refine ⟨o', g2, hx' _ H2 r2 ?_⟩
      cases o with
      | none => cases o' with
        | none => exact a2
        | some _ => exact g3.elim
      | some d' => cases o' with
        | none => exact g3.elim
        | some v' => exact g3
    · exact hx'.elim, mono_Ds fun s ρ Q Q' E E' hq he h => hk.mono _ _ _ _ _ (fun d hd => hx.mono _ _ _ _ _ (fun x hx' => mono_dGet hq hx') he hd) he h⟩
theorem de_dcin {i : Nat} {wk : PW} {k : Nat} (hr : Room k X.A) (ho : PE X a (tVar i)) (hk : DE T X W b wk) (hm : behindInMarks .In a = false := by rfl) : DE T X W (.Compare b [.In] [a] pos) (wDIn false i wk) :=
  ⟨pe_mono (pe_cmp (pc_din (hu_of hr) hk.pe ho) hm) fun σ H Q q => by
    obtain ⟨G, ρ, r, q⟩ := q
    obtain ⟨s, hd, hs, q⟩ := wDs_elim q
    refine lift_intro hk.mono r (hk.mono _ _ _ _ _ (fun kd hd' y H1 r1 e1 a1 => ?_) (fun _ z => z) q)
    obtain ⟨v, h1, h2⟩ := slot_v r1 hd hs
    unfold dIn at hd'
    split at hd'
    · rename_i o ho
      obtain ⟨a2', o', e', g1, g2, g3⟩ := sl_get h2 a1 ho
      cases e'
      refine ⟨_, h1, _, o', rfl, g2, ?_⟩
      have : o.isSome = o'.isSome := by
        cases o <;> cases o' <;> first | rfl | exact g3.elim
      rw [← this]
      exact hd' _ H1 r1 (.bl _)
    · exact hd'.elim, mono_Ds fun s ρ Q Q' E E' hq he h => hk.mono _ _ _ _ _ (fun d hd => mono_dIn hq hd) he h⟩
theorem de_dcnin {i : Nat} {wk : PW} {k : Nat} (hr : Room k X.A) (ho : PE X a (tVar i)) (hk : DE T X W b wk) (hm : behindInMarks .NotIn a = false := by rfl) : DE T X W (.Compare b [.NotIn] [a] pos) (wDIn true i wk) :=
  ⟨pe_mono (pe_cmp (pc_dnotin (hu_of hr) hk.pe ho) hm) fun σ H Q q => by
    obtain ⟨G, ρ, r, q⟩ := q
    obtain ⟨s, hd, hs, q⟩ := wDs_elim q
    refine lift_intro hk.mono r (hk.mono _ _ _ _ _ (fun kd hd' y H1 r1 e1 a1 => ?_) (fun _ z => z) q)
    obtain ⟨v, h1, h2⟩ := slot_v r1 hd hs
    unfold dIn at hd'
    split at hd'
    · rename_i o ho
      obtain ⟨a2', o', e', g1, g2, g3⟩ := sl_get h2 a1 ho
      cases e'
      refine ⟨_, h1, _, o', rfl, g2, ?_⟩
      have : o.isSome = o'.isSome := by
        cases o <;> cases o' <;> first | rfl | exact g3.elim
      rw [← this]
      exact hd' _ H1 r1 (.bl _)
    · exact hd'.elim, mono_Ds fun s ρ Q Q' E E' hq he h => hk.mono _ _ _ _ _ (fun d hd => mono_dIn hq hd) he h⟩
end
end PL
set_option Elab.async false
set_option linter.all false
set_option maxRecDepth 100000
set_option maxHeartbeats 2000000
namespace PL
open PySem PySem.Spec PyProof.Rows L2
open LamX (ExtN Tabs TabS)
section
variable {T : Tb} {X : Cx} {W : WX} {pos p pos' apos cpos : Pos} {e a b c f : Expr} {es : List Expr} {st : Stmt} {K : PySem.W.Frag} {G G2 : Gh} {ρ ρ2 : En} {σ σ2 : L2.St} {H H' : Hp} {D : Ends}
/-! ### a row of values, new ones among them ours -/
inductive AllB (D0 : List Addr) (K : PySem.W.Frag) (ρ : En) (σ : L2.St) (O0 O : List Addr) (H : Hp) : List V → List Sl → Prop
  | nil : AllB D0 K ρ σ O0 O H [] []
  | cons {v : V} {vs : List V} {s : Sl} {ss : List Sl} : SlOk K D0 O H s (some v) → (s.owned = true → ∃ a, v = .ref a ∧ Apt ρ σ a ∧ a ∉ O0 ∧ ∀ (j : Nat) (t : Sl), ss[j]? = some t → t.owned = true → vs[j]? ≠ some (.ref a)) → AllB D0 K ρ σ O0 O H vs ss → AllB D0 K ρ σ O0 O H (v :: vs) (s :: ss)
def liftBs (T : Tb) (K : PySem.W.Frag) (W : WX) (w : PWp) : TA := fun σ H Q => ∃ G ρ, Rep T K G ρ σ H ∧ w ρ (fun ss => ∀ vs O' H', Rep T K ⟨G.Hb, O', G.fl⟩ ρ σ H' → (∀ b ∈ G.O, b ∈ O') → AllB T.dc K ρ σ G.O O' H' vs ss → Q vs H') (exOut T K W G ρ σ)
structure DB (T : Tb) (X : Cx) (W : WX) (es : List Expr) (w : PWp) : Prop where
  pa : PA X es (liftBs T X.K W w)
  mono : Mono w
theorem AllB.length {D0 O0 O : List Addr} : ∀ {vs : List V} {ss : List Sl}, AllB D0 K ρ σ O0 O H vs ss → vs.length = ss.length
  | _, _, .nil => rfl
  | _, _, .cons _ _ r => congrArg (· + 1) (AllB.length r)
theorem AllB.sub {D0 O0 O1 O : List Addr} (h : ∀ b ∈ O0, b ∈ O1) : ∀ {vs : List V} {ss : List Sl}, AllB D0 K ρ σ O1 O H vs ss → AllB D0 K ρ σ O0 O H vs ss
  | _, _, .nil => .nil
  | _, _, .cons h1 h2 r => .cons h1 (fun z => by obtain ⟨a, e, h3, h4, h5⟩ := h2 z; exact ⟨a, e, h3, fun y => h4 (h a y), h5⟩) (AllB.sub h r)
theorem AllB.get_own {D0 O0 O : List Addr} : ∀ {vs : List V} {ss : List Sl} {j : Nat} {t : Sl} {a : Addr}, AllB D0 K ρ σ O0 O H vs ss → ss[j]? = some t → t.owned = true → vs[j]? = some (.ref a) → a ∉ O0
  | _, _, 0, t, a, .cons h1 h2 r, e, ht, hv => by
    simp at e hv
    subst e; subst hv
    obtain ⟨b, e, _, h, _⟩ := h2 ht
    cases e
    exact h
  | _, _, j + 1, t, a, .cons h1 h2 r, e, ht, hv => AllB.get_own (j := j) r (by simpa using e) ht (by simpa using hv)
theorem AllB.ext {D0 O0 O : List Addr} (e : ExtN (hide O H) (hide O H')) (ho : ∀ a ∈ O, a ∉ D0 → H' a = H a) : ∀ {vs : List V} {ss : List Sl}, AllB D0 K ρ σ O0 O H vs ss → AllB D0 K ρ σ O0 O H' vs ss
  | _, _, .nil => .nil
  | _, _, .cons h1 h2 r => .cons (h1.ext e ho) h2 (AllB.ext e ho r)
theorem liftBs_intro {w : PWp} {R : List V → Hp → Prop} (m : Mono w) (r : Rep T K G ρ σ H)
    (h : w ρ (fun ss => ∀ vs O' H', Rep T K ⟨G.Hb, O', G.fl⟩ ρ σ H' → ExtN (hide G.O H) (hide O' H') → (∀ b ∈ G.O, b ∈ O') → AllB T.dc K ρ σ G.O O' H' vs ss → R vs H') (exOut T K W G ρ σ)) : liftBs T K W w σ H R :=
  ⟨⟨hide G.O H, G.O, G.fl⟩, ρ, r.rebase, m _ _ _ _ _ (fun d hd vs O' H' r' s a => hd vs O' H' (r'.unbase (G := ⟨G.Hb, O', G.fl⟩) r.ext) r'.ext s a) (fun x hx H' cls dd r' q => hx H' cls dd (r'.unbase r.ext) q) h⟩
theorem ExR.ext {x : Exn} {cls : Value} {dd : Option Addr} (h : ExR K x cls dd H) (e : ExtN H H') : ExR K x cls dd H' := by
  refine ⟨h.1, ?_⟩
  have h2 := h.2
  split at h2
  · exact h2
  · obtain ⟨a, v, h3, h4, h5⟩ := h2
    exact ⟨a, v, h3, e _ _ h4 (fun ps z => by cases z), h5.ext e⟩
def wbOl (w : PW) (ws : PWp) : PWp := fun ρ Q E => w ρ (fun d => match d with | .list ds => ws ρ (fun ss => Q (.ol ds :: ss)) E | _ => False) E
def wbDk (ws : PWp) : PWp := fun ρ Q E => ws ρ (fun ss => Q (.ok [] :: ss)) E
def wbDt (ws : PWp) : PWp := fun ρ Q E => ws ρ (fun ss => Q (.ot [] :: ss)) E
theorem db_nil : DB T X W [] wpNil := ⟨⟨fun p pins s σ H Q I h => pa_nil.run p pins s σ H Q I (by
  obtain ⟨G, ρ, r, q⟩ := h
  exact q [] G.O H r (fun _ z => z) .nil)⟩, fun _ _ _ _ _ hq _ h => hq _ h⟩
theorem db_sh {w : PW} {ws : PWp} (ha : DE T X W e w) (hr : DB T X W es ws) (hs : starEach (e :: es) X.env = (false, eval e X.env) :: starEach es X.env := by rfl) : DB T X W (e :: es) (wpSh w ws) :=
  ⟨⟨fun p pins s σ H Q I h => (pa_cons ha.pe hr.pa hs).run p pins s σ H Q I (by
    obtain ⟨G, ρ, r, q⟩ := h
    refine lift_intro ha.mono r (ha.mono _ _ _ _ _ (fun d hd v H1 r1 e1 a1 => ?_) (fun _ z => z) q)
    refine liftBs_intro hr.mono r1 (hr.mono _ _ _ _ _ (fun ss hss vs O' H2 r2 e2 s2 a2 => ?_) (fun _ z => z) hd)
    exact hss _ O' H2 r2 s2 (.cons ⟨v, rfl, a1.ext e2⟩ (fun z => by cases z) a2))⟩, fun ρ Q Q' E E' hq he h => ha.mono _ _ _ _ _ (fun d hd => hr.mono _ _ _ _ _ (fun ss hss => hq _ hss) he hd) he h⟩
/-- what is ours stands in flight while the rest is asked -/
theorem own_rest {ws : PWp} {s0 : Sl} {o : HO} {p0 : Addr} {Q : List V → Hp → Prop} (mr : Mono ws) (r : Rep T K G ρ σ H) (r1 : Rep T K ⟨G.Hb, p0 :: G.O, G.fl⟩ ρ σ H') (na : p0 ∉ G.O) (ap : Apt ρ σ p0) (hp : H' p0 = some o)
    (ho : s0.owned = true) (hs : ∀ O' H2, ExtN (hide (p0 :: G.O) H') (hide O' H2) → Own T.dc O' p0 → H2 p0 = some o → SlOk K T.dc O' H2 s0 (some (.ref p0)))
    (h : ws ρ (fun ss => ∀ vs O' H', Rep T K ⟨G.Hb, O', G.fl⟩ ρ σ H' → (∀ b ∈ G.O, b ∈ O') → AllB T.dc K ρ σ G.O O' H' vs (s0 :: ss) → Q vs H') (exOut T K W G ρ σ)) :
    liftBs T K W ws σ H' fun vs H2 => Q (.ref p0 :: vs) H2 := by
  have nd : p0 ∉ T.dc := fun z => na (r.dcs p0 z).1
  refine liftBs_intro (G := ⟨G.Hb, p0 :: G.O, (p0, o) :: G.fl⟩) mr (r1.fly1 List.mem_cons_self hp nd) (mr _ _ _ _ _ (fun ss hss vs O' H2 r2 e2 s2 a2 => ?_) (fun x hx H2 cls dd r2 q => ?_) h)
  · obtain ⟨r2', k⟩ := r2.land
    have ow : Own T.dc O' p0 := ⟨s2 p0 List.mem_cons_self, nd⟩
    refine hss _ O' H2 r2' (fun b hb => s2 b (List.mem_cons_of_mem _ hb)) (.cons (hs O' H2 e2 ow k) (fun _ => ⟨p0, rfl, ap, na, fun j t hj ht z => ?_⟩) (a2.sub fun b hb => List.mem_cons_of_mem _ hb))
    exact a2.get_own hj ht z List.mem_cons_self
  · have r3 := r2.land.1
    exact hx H2 cls dd (r.drop r3 ap) (q.ext (ext_sub fun b hb => List.mem_cons_of_mem _ hb))
theorem db_ol {w : PW} {ws : PWp} (ha : DF T X W e w) (hr : DB T X W es ws) (hs : starEach (e :: es) X.env = (false, eval e X.env) :: starEach es X.env := by rfl) : DB T X W (e :: es) (wbOl w ws) :=
  ⟨⟨fun p pins s σ H Q I h => (pa_cons ha.pe hr.pa hs).run p pins s σ H Q I (by
    obtain ⟨G, ρ, r, q⟩ := h
    refine liftF_intro ha.mono r (ha.mono _ _ _ _ _ (fun d hd a vs ds H1 ed r1 e1 na ap h1 h2 => ?_) (fun _ z => z) q)
    subst ed
    exact own_rest (s0 := .ol ds) hr.mono r r1 na ap h1 rfl (fun O' H2 e2 ow k => ⟨a, vs, rfl, ow, k, h2.ext e2⟩) hd)⟩, fun ρ Q Q' E E' hq he h => ha.mono _ _ _ _ _ (fun d hd => by
      cases d <;> first | exact hr.mono _ _ _ _ _ (fun ss hss => hq _ hss) he hd | exact hd) he h⟩
theorem db_dk {ws : PWp} (hr : DB T X W es ws) (hs : starEach (.Dict [] [] pos :: es) X.env = (false, eval (.Dict [] [] pos) X.env) :: starEach es X.env := by rfl) : DB T X W (.Dict [] [] pos :: es) (wbDk ws) :=
  ⟨⟨fun p pins s σ H Q I h => (pa_cons pe_dnewK hr.pa hs).run p pins s σ H Q I (fun p0 hp => by
    obtain ⟨G, ρ, r, q⟩ := h
    obtain ⟨r1, eh, na, ap⟩ := r.own (o := .dK []) hp (fun ps z => by cases z)
    exact own_rest (s0 := .ok []) hr.mono r r1 na ap upd_same rfl (fun O' H2 e2 ow k => ⟨p0, [], rfl, ow, k, rfl, .nil⟩) q)⟩, fun ρ Q Q' E E' hq he h => hr.mono _ _ _ _ _ (fun ss hss => hq _ hss) he h⟩
theorem db_dt {ws : PWp} (hr : DB T X W es ws) (hs : starEach (.Dict [] [] pos :: es) X.env = (false, eval (.Dict [] [] pos) X.env) :: starEach es X.env := by rfl) : DB T X W (.Dict [] [] pos :: es) (wbDt ws) :=
  ⟨⟨fun p pins s σ H Q I h => (pa_cons pe_dnewT hr.pa hs).run p pins s σ H Q I (fun p0 hp => by
    obtain ⟨G, ρ, r, q⟩ := h
    obtain ⟨r1, eh, na, ap⟩ := r.own (o := .dT []) hp (fun ps z => by cases z)
    exact own_rest (s0 := .ot []) hr.mono r r1 na ap upd_same rfl (fun O' H2 e2 ow k => ⟨p0, [], rfl, ow, k, rfl, .nil⟩) q)⟩, fun ρ Q Q' E E' hq he h => hr.mono _ _ _ _ _ (fun ss hss => hq _ hss) he h⟩
/-! ### stored in slots -/
def setE : En → List Nat → List Sl → En
  | ρ, i :: is, s :: ss => setE (ρ.set i s) is ss
  | ρ, _, _ => ρ
def setV : L2.St → List Nat → List V → L2.St
  | σ, i :: is, v :: vs => setV (σ.set i (some v)) is vs
  | σ, _, _ => σ
theorem Apt.setSl {i : Nat} {s : Sl} {v : V} {b : Addr} (h : Apt ρ σ b) (hv : s.owned = true → v ≠ .ref b) : Apt (ρ.set i s) (σ.set i (some v)) b := fun j t hj ht e => by
  by_cases z : i = j
  · subst z
    by_cases hl : i < ρ.length
    · rw [List.getElem?_set_self hl] at hj
      cases hj
      by_cases hl2 : i < σ.length
      · rw [List.getElem?_set_self hl2] at e
        cases e
        exact hv ht rfl
      · rw [List.getElem?_eq_none (by rw [List.length_set]; omega)] at e; cases e
    · rw [List.getElem?_eq_none (by rw [List.length_set]; omega)] at hj; cases hj
  · rw [List.getElem?_set_ne z] at hj e
    exact h j t hj ht e
theorem AllB.setSl {D0 O0 O : List Addr} {i : Nat} {s : Sl} {v : V} : ∀ {vs : List V} {ss : List Sl}, AllB D0 K ρ σ O0 O H vs ss → (s.owned = true → ∃ a, v = .ref a ∧ ∀ (j : Nat) (t : Sl), ss[j]? = some t → t.owned = true → vs[j]? ≠ some (.ref a)) → AllB D0 K (ρ.set i s) (σ.set i (some v)) O0 O H vs ss
  | _, _, .nil, _ => .nil
  | _, _, .cons h1 h2 r, h => .cons h1 (fun z => by
      obtain ⟨b, e, h3, h4, h5⟩ := h2 z
      refine ⟨b, e, h3.setSl fun z2 e2 => ?_, h4, h5⟩
      obtain ⟨a, e3, h6⟩ := h z2
      rw [e3] at e2
      cases e2
      exact h6 0 _ rfl z (by rw [e]; rfl)) (AllB.setSl r fun z => by
      obtain ⟨a, e3, h6⟩ := h z
      exact ⟨a, e3, fun j t hj ht => h6 (j + 1) t (by simpa using hj) ht⟩)
theorem Rep.setAll {O0 : List Addr} : ∀ {is : List Nat} {vs : List V} {ss : List Sl} {ρ : En} {σ : L2.St}, AllB T.dc K ρ σ O0 G.O H vs ss → Rep T K G ρ σ H → FlApt G.fl ρ σ → (∀ q ∈ G.fl, q.1 ∈ O0) → Rep T K G (setE ρ is ss) (setV σ is vs) H ∧ FlApt G.fl (setE ρ is ss) (setV σ is vs)
  | [], vs, ss, ρ, σ, h, r, fa, hf => by cases h <;> exact ⟨r, fa⟩
  | i :: is, _, _, ρ, σ, .nil, r, fa, hf => ⟨r, fa⟩
  | i :: is, _, _, ρ, σ, .cons (v := v) (vs := vs) (s := s) (ss := ss) h1 h2 h3, r, fa, hf => by
    show Rep T K G (setE (ρ.set i s) is ss) (setV (σ.set i (some v)) is vs) H ∧ FlApt G.fl (setE (ρ.set i s) is ss) (setV (σ.set i (some v)) is vs)
    refine Rep.setAll (is := is) (h3.setSl fun z => by obtain ⟨a, e, _, _, h5⟩ := h2 z; exact ⟨a, e, h5⟩) (r.setSl h1 fun z b eb j t hj hjt ht => ?_) (fa.setSl fun z q hq e => ?_) hf
    · obtain ⟨a, e, ap, _, _⟩ := h2 z
      rw [eb] at e
      cases e
      exact ap j t hjt ht
    · obtain ⟨a, e', _, h4, _⟩ := h2 z
      rw [e'] at e
      cases e
      exact h4 (hf q hq)
/-! ### x = {} -/
def sParN (is : List Nat) (w : PWp) : SW := fun ρ D => w ρ (fun ss => ss.length = is.length ∧ D.nx (setE ρ is ss)) D.ex
theorem mono_ParN {is : List Nat} {w : PWp} (m : Mono w) : MonoS (sParN is w) := fun ρ D D' l q => m _ _ _ _ _ (fun ss hs => ⟨hs.1, l.nx _ hs.2⟩) l.ex q
theorem parN_imp {is : List Nat} {w : PWp} {R : List V → Hp → Prop} (m : Mono w) (q : liftS T K W (sParN is w) D σ H) (h : ∀ vs H', vs.length = is.length → D.nx (setV σ is vs) H' → R vs H') : liftBs T K W w σ H R := by
  obtain ⟨G, ρ, r, fa, q⟩ := q
  refine ⟨G, ρ, r, m _ _ _ _ _ (fun ss hs vs O' H1 r1 sb a1 => ?_) (fun _ z => ex_out' z) q⟩
  obtain ⟨r2, fa2⟩ := Rep.setAll (G := ⟨G.Hb, O', G.fl⟩) (is := is) a1 r1 fa (fun q hq => (r.fly q hq).1)
  exact h vs H1 (a1.length.trans hs.1) (hs.2 _ H1 O' r2 fa2)
theorem ds_par2 {i j : Nat} {x y : Str} {px py pt : Pos} {kt k2 pt2} {w : PWp} (hc : X.calm = true) (hN : X.N.Nodup) (hi : X.N[i]? = some x) (hj : X.N[j]? = some y) (hij : i ≠ j)
    (hx : X.env.scope.names.lookup x = some .local) (hy : X.env.scope.names.lookup y = some .local) (ha : DB T X W [a, b] w)
    (hw : swappedStores [.Tuple [.Name x px, .Name y py] kt pt] (.Tuple [a, b] k2 pt2) X.env = pure (some [x, y]))
    (hs : swapsWithSole [.Tuple [.Name x px, .Name y py] kt pt] (.Tuple [a, b] k2 pt2) pos.line X.env = pure false := by rfl) : DS T X W (.Assign [.Tuple [.Name x px, .Name y py] kt pt] (.Tuple [a, b] k2 pt2) pos) (sParN [i, j] w) :=
  ⟨ps_mono (ps_par hc hN hi hj hij hx hy ha.pa hw hs) fun D σ H q => parN_imp ha.mono q fun vs H' hl hn => by
    match vs, hl with
    | [v, u], _ => exact ⟨v, u, rfl, hn⟩, mono_ParN ha.mono⟩
theorem ds_par3 {i j l : Nat} {x y z : Str} {px py pz pt : Pos} {kt k2 pt2} {w : PWp} (hc : X.calm = true) (hN : X.N.Nodup) (hi : X.N[i]? = some x) (hj : X.N[j]? = some y) (hl : X.N[l]? = some z) (hij : i ≠ j) (hil : i ≠ l) (hjl : j ≠ l)
    (hx : X.env.scope.names.lookup x = some .local) (hy : X.env.scope.names.lookup y = some .local) (hz : X.env.scope.names.lookup z = some .local) (ha : DB T X W [a, b, c] w)
    (hw : swappedStores [.Tuple [.Name x px, .Name y py, .Name z pz] kt pt] (.Tuple [a, b, c] k2 pt2) X.env = pure (some [x, y, z]))
    (hs : swapsWithSole [.Tuple [.Name x px, .Name y py, .Name z pz] kt pt] (.Tuple [a, b, c] k2 pt2) pos.line X.env = pure false := by rfl) : DS T X W (.Assign [.Tuple [.Name x px, .Name y py, .Name z pz] kt pt] (.Tuple [a, b, c] k2 pt2) pos) (sParN [i, j, l] w) :=
  ⟨ps_mono (ps_par3 hc hN hi hj hl hij hil hjl hx hy hz ha.pa hw hs) fun D σ H q => parN_imp ha.mono q fun vs H' hl hn => by
    match vs, hl with
    | [v, u, t], _ => exact ⟨v, u, t, rfl, hn⟩, mono_ParN ha.mono⟩
/-- targets that are names, in order -/
inductive TNames (X : Cx) : List Expr → List Nat → TGs → Prop
  | nil : TNames X [] [] gNil
  | cons {e : Expr} {es : List Expr} {i : Nat} {is : List Nat} {t : TGs} : TNames X es is t → TNames X (e :: es) (i :: is) (gCons (gName i) t)
theorem tnames_set {is : List Nat} {t : TGs} {ts : List Expr} (h : TNames X ts is t) : ∀ {vs : List V} {σ : L2.St} {H : Hp} {R : L2.St → Hp → Prop}, vs.length = is.length → R (setV σ is vs) H → t vs σ H R := by
  induction h with
  | nil => intro vs σ H R hl hr; cases vs with
    | nil => exact ⟨rfl, hr⟩
    | cons _ _ => cases hl
  | cons h ih => intro vs σ H R hl hr; cases vs with
    | nil => cases hl
    | cons v r => exact ⟨v, r, rfl, ih (Nat.succ.inj hl) hr⟩
theorem ds_parT {ts : List Expr} {is : List Nat} {t : TGs} {n k k2 : Nat} {pt pt2 : Pos} {w : PWp} (hc : X.calm = true) (ha : DB T X W es w) (hg : PGs X ts t) (ht : TNames X ts is t) (hn : (assignEach ts X.env).length = n := by rfl) (hst : (assignEach ts X.env).findIdx? (·.1) = none := by rfl) (hni : is.length = n := by rfl)
    (hz : n ≤ sizeLine := by rw [sizeLine_eq]; decide) (hs : swapsWithSole [.Tuple ts k pt] (.Tuple es k2 pt2) pos.line X.env = pure false := by rfl) (hw : swappedStores [.Tuple ts k pt] (.Tuple es k2 pt2) X.env = pure none := by rfl)
    (h1 : (assignEach [.Tuple ts k pt] X.env).map (·.2) = [assign (.Tuple ts k pt) X.env] := by rfl) : DS T X W (.Assign [.Tuple ts k pt] (.Tuple es k2 pt2) pos) (sParN is w) :=
  ⟨ps_mono (ps_asg (pe_tup ha.pa) (pg_tup hc hg hn hst) hs hw h1) fun D σ H q => by
    obtain ⟨G, ρ, r, fa, q⟩ := q
    refine ⟨G, ρ, r, ha.mono _ _ _ _ _ (fun ss hs vs O' H1 r1 sb a1 => ?_) (fun _ z => ex_out' z) q⟩
    have hl : vs.length = is.length := a1.length.trans hs.1
    refine ⟨by rw [hl, hni]; exact hz, fun p hp => ⟨p, vs, rfl, SqT.of upd_same, by rw [hl, hni], tnames_set ht hl ?_⟩⟩
    have r2 := r1.alloc (H' := upd H1 p (.tup vs)) fun b o eb => by rw [upd_ne (ne_of_none eb hp)]; exact eb
    have a2 : AllB T.dc X.K ρ σ G.O O' (upd H1 p (.tup vs)) vs ss := by
      have eh : ExtN (hide O' H1) (hide O' (upd H1 p (.tup vs))) := ext_hide fun b o _ eb _ => by rw [upd_ne (ne_of_none eb hp)]; exact eb
      exact a1.ext eh fun b hb _ => by obtain ⟨o, ho, _⟩ := r1.dom b hb; exact upd_ne (ne_of_none ho hp)
    obtain ⟨r3, fa3⟩ := Rep.setAll (G := ⟨G.Hb, O', G.fl⟩) (is := is) a2 r2 fa (fun q hq => (r.fly q hq).1)
    exact hs.2 _ _ O' r3 fa3, mono_ParN ha.mono⟩
/-- x = {} -/
theorem ds_new1 {i : Nat} {x : Str} {w : PWp} {t : TE} (hN : X.N.Nodup) (hi : X.N[i]? = some x) (hx : Loc X.env.scope x) (hb : DB T X W [e] w) (he : PE X e (fun σ H Q => liftBs T X.K W w σ H fun vs H' => ∃ v, vs = [v] ∧ Q v H')) (hs : swapsWith e (some (.Name x pos')) pos.line X.env = pure false := by rfl)
    (hf : X.fn x = true ∨ X.env.scope.names.lookup x = some .local := by first | exact .inl rfl | exact .inr rfl | assumption) : DS T X W (.Assign [.Name x pos'] e pos) (sParN [i] w) :=
  ⟨ps_mono (ps_set hN hi hx he hs hf) fun D σ H q => parN_imp hb.mono q fun vs H' hl hn => by
    match vs, hl with
    | [v], _ => exact ⟨v, rfl, hn⟩, mono_ParN hb.mono⟩
end
end PL
set_option Elab.async false
set_option linter.all false
set_option maxRecDepth 100000
set_option maxHeartbeats 2000000
namespace PL
open PySem PySem.Spec PyProof.Rows L2
open LamX (ExtN Tabs TabS)
section
variable {T : Tb} {X : Cx} {W : WX} {pos p pos' apos cpos tpos : Pos} {e a b c f : Expr} {es : List Expr} {st : Stmt} {K : PySem.W.Frag} {G G2 : Gh} {ρ ρ2 : En} {σ σ2 : L2.St} {H H' : Hp} {D : Ends}
/-! ### x = {} -/
def sDk (i : Nat) : SW := fun ρ D => D.nx (ρ.set i (.ok []))
def sDt (i : Nat) : SW := fun ρ D => D.nx (ρ.set i (.ot []))
theorem ds_dk {i : Nat} {x : Str} (hN : X.N.Nodup) (hi : X.N[i]? = some x) (hx : Loc X.env.scope x) (hs : swapsWith (.Dict [] [] p) (some (.Name x pos')) pos.line X.env = pure false := by rfl)
    (hf : X.fn x = true ∨ X.env.scope.names.lookup x = some .local := by first | exact .inl rfl | exact .inr rfl | assumption) : DS T X W (.Assign [.Name x pos'] (.Dict [] [] p) pos) (sDk i) :=
  ⟨ps_mono (ps_set hN hi hx pe_dnewK hs hf) fun D σ H q p0 hp => by
    obtain ⟨G, ρ, r, fa, q⟩ := q
    obtain ⟨r1, eh, na, ap⟩ := r.own (o := .dK []) hp (fun ps z => by cases z)
    have nd : p0 ∉ T.dc := fun z => na (r.dcs p0 z).1
    exact q _ _ (p0 :: G.O) (r1.setSl (s := .ok []) ⟨p0, [], rfl, ⟨List.mem_cons_self, nd⟩, upd_same, rfl, .nil⟩ fun _ b eb j t _ hj ht => by cases eb; exact ap j t hj ht) (fa.setSl fun _ q hq e => na (by cases e; exact (r.fly q hq).1)), fun _ _ _ l h => l.nx _ h⟩
theorem ds_dt {i : Nat} {x : Str} (hN : X.N.Nodup) (hi : X.N[i]? = some x) (hx : Loc X.env.scope x) (hs : swapsWith (.Dict [] [] p) (some (.Name x pos')) pos.line X.env = pure false := by rfl)
    (hf : X.fn x = true ∨ X.env.scope.names.lookup x = some .local := by first | exact .inl rfl | exact .inr rfl | assumption) : DS T X W (.Assign [.Name x pos'] (.Dict [] [] p) pos) (sDt i) :=
  ⟨ps_mono (ps_set hN hi hx pe_dnewT hs hf) fun D σ H q p0 hp => by
    obtain ⟨G, ρ, r, fa, q⟩ := q
    obtain ⟨r1, eh, na, ap⟩ := r.own (o := .dT []) hp (fun ps z => by cases z)
    have nd : p0 ∉ T.dc := fun z => na (r.dcs p0 z).1
    exact q _ _ (p0 :: G.O) (r1.setSl (s := .ot []) ⟨p0, [], rfl, ⟨List.mem_cons_self, nd⟩, upd_same, rfl, .nil⟩ fun _ b eb j t _ hj ht => by cases eb; exact ap j t hj ht) (fa.setSl fun _ q hq e => na (by cases e; exact (r.fly q hq).1)), fun _ _ _ l h => l.nx _ h⟩
/-! ### xs[k] op= e, xs ours -/
theorem pget_list : PGet X (rIxL X.K) := by
  intro pins s σ H o i ov iv Q I ro ri h
  obtain ⟨p, xs, k, z, rfl, rfl, hq, he, q⟩ := h
  obtain rfl : ov = Value.ref p := ro
  obtain ⟨t, rfl⟩ := (show ∃ t, iv = Value.int k t from ri)
  obtain ⟨its, r, pl, hz⟩ := I.list hq
  obtain ⟨j, h1, h2, h3, h4, h5⟩ := atI_get he
  obtain ⟨w, ew, rw'⟩ := r.get h2
  have hl := r.length
  have hn := line63
  by_cases h0 : 0 ≤ k
  · have hj : k.toNat = j := by
      rw [seqIndex_of h0 h5] at h1
      exact Option.some.inj h1
    exact wpAny_getItem_list pl.isList h0 (by omega) (by rw [hj]; simpa using ew) ⟨z, H, I, rw', q⟩
  · have hj : (k + (its.toArray.size : Int)).toNat = j := by
      rw [seqIndex_neg (by omega) h4] at h1
      rw [List.size_toArray, ← hl]
      exact Option.some.inj h1
    exact wpAny_getItem_list_neg pl.isList (by omega) (by rw [List.size_toArray]; omega) (by omega) (by rw [hj]; simpa using ew) ⟨z, H, I, rw', q⟩
def sAugI (i : Nat) (f : PyData → PyData → (PyData → Prop) → Prop) (wk w : PW) : SW := fun ρ D => match ρ[i]? with
  | some (.ol ds) => wk ρ (fun k => match k with
    | .int n => match atI ds n with
      | some d => w ρ (fun y => f d y fun z => ∃ j, ixN ds.length n = some j ∧ D.nx (ρ.set i (.ol (ds.set j z)))) D.ex
      | none => False
    | _ => False) D.ex
  | _ => False
theorem atI_daD {vs : List V} {ds : List PyData} {n : Int} {d : PyData} (h : DaAll K H vs ds) (e : atI ds n = some d) : ∃ v, atI vs n = some v ∧ Da K H v d := by
  unfold atI at e ⊢
  rw [h.length]
  cases e1 : ixN ds.length n with
  | none => rw [e1] at e; cases e
  | some j =>
    rw [e1] at e
    exact h.getD e
theorem ds_augI {i : Nat} {op : Operator} {f : PyData → PyData → (PyData → Prop) → Prop} {wk w : PW} (ho : PE X a (tVar i)) (hk : DE T X W b wk) (h : DE T X W e w) (hop : OpD T X (inplaceOp op) f) (mf : MonoF f)
    (ha : ∀ ov iv new, augStore b ov iv new = (do holding [new, ov, iv] (setItem ov iv new); release [new, ov, iv] []; pure .next) := by intros; rfl) : DS T X W (.AugAssign (.Subscript a b tpos) op e pos) (sAugI i f wk w) :=
  ⟨ps_mono (ps_augS ho hk.pe pget_list h.pe hop set_list ha) fun D σ H q => by
    obtain ⟨G, ρ, r, fa, q⟩ := q
    unfold sAugI at q
    split at q
    · rename_i ds hd
      obtain ⟨u, h1, b, vs, rfl, h3, h4, h5⟩ := r.slot i _ hd
      refine ⟨_, h1, lift_intro hk.mono r (hk.mono _ _ _ _ _ (fun k hk' y H1 r1 e1 a1 => ?_) (fun _ z => ex_out' z) q)⟩
      cases a1 with
      | int n =>
        simp only at hk'
        split at hk'
        · rename_i d hd'
          obtain ⟨v1, h1', b1, vs1, e1', h31, h41, h51⟩ := r1.slot i _ hd
          rw [h1] at h1'
          cases h1'
          cases e1'
          obtain ⟨v, hv, dv⟩ := atI_daD h51 hd'
          refine ⟨_, vs1, n, v, rfl, rfl, SqL.of h41, hv, lift_intro h.mono r1 (h.mono _ _ _ _ _ (fun y hy u H2 r2 e2 a2 => ?_) (fun _ z => ex_out' z) hk')⟩
          refine ⟨G, ρ, σ, d, y, r2, .sh (dv.ext e2), .sh a2, mf _ _ _ _ (fun z hz v' H3 r3 a3 => ?_) hy⟩
          obtain ⟨j, hj, q⟩ := hz
          obtain ⟨v3, h13, b3, vs3, e3', h33, h43, h53⟩ := r3.slot i _ hd
          rw [h1] at h13
          cases h13
          cases e3'
          refine ⟨_, vs3, n, j, rfl, rfl, h43, by rw [h53.length]; exact hj, ?_⟩
          exact q σ _ G.O (r3.wr hd h1 h33 h43 (h53.set a3 j) fun q hq z => fa q hq i _ hd rfl (by rw [z]; exact h1)) (fa.wr hd rfl)
        · exact hk'.elim
      | _ => exact hk'.elim
    · exact q.elim, fun ρ D D' l q => by
    unfold sAugI at q ⊢
    split at q
    · refine hk.mono _ _ _ _ _ (fun k hk' => ?_) l.ex q
      split at hk'
      · split at hk'
        · exact h.mono _ _ _ _ _ (fun y hy => mf _ _ _ _ (fun z ⟨j, h1, h2⟩ => ⟨j, h1, l.nx _ h2⟩) hy) l.ex hk'
        · exact hk'
      · exact hk'
    · exact q⟩
/-! ### x = xs.pop(), xs ours -/
def sPop (i j : Nat) : SW := fun ρ D => match ρ[j]? with
  | some (.ol ds) => match ds[ds.length - 1]? with
    | some d => D.nx ((ρ.set j (.ol ds.dropLast)).set i (.sh d))
    | none => False
  | _ => False
theorem DaAll.dropLast : ∀ {vs : List V} {ds : List PyData}, DaAll K H vs ds → DaAll K H vs.dropLast ds.dropLast
  | _, _, .nil => .nil
  | _, _, .cons _ .nil => .nil
  | _, _, .cons h (.cons h2 r) => .cons h (DaAll.dropLast (.cons h2 r))
theorem ds_pop {i j : Nat} {x : Str} (hN : X.N.Nodup) (hi : X.N[i]? = some x) (hx : Loc X.env.scope x) (ha : PE X a (tVar j))
    (hs : swapsWith (.Call (.Attribute a "pop" apos) [] [] cpos) (some (.Name x pos')) pos.line X.env = pure false := by rfl) (hbase : attributeBase a "pop" X.env (eval a X.env) = eval a X.env := by rfl) (hline : (apos.endLine == cpos.line) = true := by rfl)
    (hf : X.fn x = true ∨ X.env.scope.names.lookup x = some .local := by first | exact .inl rfl | exact .inr rfl | assumption) : DS T X W (.Assign [.Name x pos'] (.Call (.Attribute a "pop" apos) [] [] cpos) pos) (sPop i j) :=
  ⟨ps_mono (ps_set hN hi hx (pe_bm0 PySem.F.plainAttrs_list PySem.F.slot_list_pop PySem.F.type_list_pop mt_pop ha hbase hline) hs hf) fun D σ H q => by
    obtain ⟨G, ρ, r, fa, q⟩ := q
    unfold sPop at q
    split at q
    · rename_i ds hd
      split at q
      · rename_i d hdl
        obtain ⟨v, h1, b, vs, rfl, h3, h4, h5⟩ := r.slot j _ hd
        obtain ⟨y, hy, dy⟩ := h5.getD hdl
        refine ⟨_, h1, .inl ⟨rfl, _, SqL.of h4⟩, _, vs, y, rfl, rfl, h4, by rw [h5.length]; exact hy, ?_⟩
        have r2 := r.wr hd h1 h3 h4 h5.dropLast fun q hq z => fa q hq j _ hd rfl (by rw [z]; exact h1)
        have eh : hide G.O (upd H b (.lst vs.dropLast)) = hide G.O H := hide_upd h3.1
        exact q _ _ G.O (r2.setSh (by rw [eh]; exact dy)) (FlApt.setSh (fa.wr hd rfl))
      · exact q.elim
    · exact q.elim, fun ρ D D' l q => by
    unfold sPop at q ⊢
    split at q
    · split at q
      · exact l.nx _ q
      · exact q
    · exact q⟩
/-! ### xs.extend(e), xs ours, e a new list -/
def sExt (i : Nat) (w : PW) : SW := fun ρ D => match ρ[i]? with
  | some (.ol ds) => w ρ (fun d => match d with | .list es => ds.length + es.length ≤ sizeLine ∧ D.nx (ρ.set i (.ol (ds ++ es))) | _ => False) D.ex
  | _ => False
theorem ds_ext {i : Nat} {w : PW} (ha : PE X a (tVar i)) (h : DE T X W e w)
    (hs0 : swapsWith (.Call (.Attribute a "extend" apos) [e] [] pos) none pos'.line X.env = pure false := by rfl)
    (hbase : attributeBase a "extend" X.env (eval a X.env) = eval a X.env := by rfl)
    (hfew : ((backTo pos (starEach [e] X.env)).all (fun x => !x.1) && (backToKw pos (keywordEach [] X.env)).all (fun x => x.1.isSome)
      && decide (([e]).length + ([] : List Keyword).length + (if ([] : List Keyword).isEmpty then 0 else 1) < 30)) = true := by rfl)
    (hline : (apos.endLine == pos.line) = true := by rfl) (hs : starEach [e] X.env = (false, eval e X.env) :: starEach [] X.env := by rfl) :
    DS T X W (.Expr (.Call (.Attribute a "extend" apos) [e] [] pos) pos') (sExt i w) :=
  ⟨ps_mono (ps_expr (pe_bm PySem.F.plainAttrs_list PySem.F.slot_list_extend PySem.F.type_list_extend mt_extend ha (pa_cons h.pe pa_nil hs) hbase hfew hline hs (by rfl)) hs0) fun D σ H q => by
    obtain ⟨G, ρ, r, fa, q⟩ := q
    unfold sExt at q
    split at q
    · rename_i ds hd
      obtain ⟨v, h1, b, vs, rfl, h3, h4, h5⟩ := r.slot i _ hd
      refine ⟨_, h1, .inl ⟨rfl, _, SqL.of h4⟩, lift_intro h.mono r (h.mono _ _ _ _ _ (fun d hd' v H1 r1 e1 a1 => ?_) (fun _ z => ex_out' z) q)⟩
      cases a1 with
      | lst g1 g2 =>
        rename_i c us es
        obtain ⟨v', h1', b', vs', e', h3', h4', h5'⟩ := r1.slot i _ hd
        rw [h1] at h1'
        cases h1'
        cases e'
        refine ⟨_, c, vs', us, rfl, rfl, h4', (hide_some g1).2, by rw [h5'.length, g2.length]; exact hd'.1, ?_⟩
        exact hd'.2 σ _ G.O (r1.wr hd h1 h3' h4' (h5'.append g2) fun q hq z => fa q hq i _ hd rfl (by rw [z]; exact h1)) (fa.wr hd rfl)
      | _ => exact hd'.elim
    · exact q.elim, fun ρ D D' l q => by
    unfold sExt at q ⊢
    split at q
    · exact h.mono _ _ _ _ _ (fun d hd => by cases d <;> first | exact ⟨hd.1, l.nx _ hd.2⟩ | exact hd) l.ex q
    · exact q⟩
/-! ### xs.count(k), whole numbers -/
def wCnt (w wk : PW) : PW := fun ρ Q E => w ρ (fun x => match x with
  | .list ds => match allInts ds with
    | some ns => wk ρ (fun k => match k with | .int n => Q (.int (ns.count n : Nat)) | _ => False) E
    | none => False
  | _ => False) E
theorem de_count {w wk : PW} (ho : DE T X W a w) (hk : DE T X W b wk)
    (hbase : attributeBase a "count" X.env (eval a X.env) = eval a X.env := by rfl)
    (hfew : ((backTo cpos (starEach [b] X.env)).all (fun x => !x.1) && (backToKw cpos (keywordEach [] X.env)).all (fun x => x.1.isSome)
      && decide (([b]).length + ([] : List Keyword).length + (if ([] : List Keyword).isEmpty then 0 else 1) < 30)) = true := by rfl)
    (hline : (apos.endLine == cpos.line) = true := by rfl) (hs : starEach [b] X.env = (false, eval b X.env) :: starEach [] X.env := by rfl) : DE T X W (.Call (.Attribute a "count" apos) [b] [] cpos) (wCnt w wk) :=
  ⟨pe_mono (pe_bm PySem.F.plainAttrs_list PySem.F.slot_list_count PySem.F.type_list_count mt_lcount ho.pe (pa_cons hk.pe pa_nil hs) hbase hfew hline hs (by rfl)) fun σ H Q q => by
    obtain ⟨G, ρ, r, q⟩ := q
    refine lift_intro ho.mono r (ho.mono _ _ _ _ _ (fun d hd v H1 r1 e1 a1 => ?_) (fun _ z => z) q)
    cases a1 with
    | lst g1 g2 =>
      rename_i c us es
      simp only at hd
      split at hd
      · rename_i ns hns
        refine ⟨.inl ⟨rfl, _, SqL.of (hide_some g1).2⟩, lift_intro hk.mono r1 (hk.mono _ _ _ _ _ (fun k hk' y H2 r2 e2 a2 => ?_) (fun _ z => z) hd)⟩
        cases a2 with
        | int n =>
          have e3 := allInts_eq hns
          subst e3
          have g3 := e2 _ _ g1 (fun ps z => by cases z)
          rw [g2.ints ns] at g3
          exact ⟨c, ns, n, rfl, rfl, SqL.of (hide_some g3).2, hk' _ H2 r2 (.int _)⟩
        | _ => exact hk'.elim
      · exact hd.elim
    | _ => exact hd.elim, fun ρ Q Q' E E' hq he h => ho.mono _ _ _ _ _ (fun d hd => by
      split at hd
      · split at hd
        · exact hk.mono _ _ _ _ _ (fun k hk' => by cases k <;> first | exact hq _ hk' | exact hk') he hd
        · exact hd
      · exact hd) he h⟩
end
end PL
set_option Elab.async false
set_option linter.all false
set_option maxRecDepth 100000
set_option maxHeartbeats 2000000
/-! a lambda of one parameter, called where its maker stands -/
namespace PL
open PySem PySem.Spec PyProof.Rows L2 LamX
structure LamP (sc scope : Scope) (p : Str) : Prop where
  kind : scope.kind = .function
  co : scope.isCoroutine = false
  gen : scope.isGenerator = false
  par : scope.names.lookup p = some .local
  own : ∀ y ∈ scope.names, y.2 ≠ .cell
  loc : ∀ y ∈ scope.names, scope.names.lookup y.1 = some y.2 ∧ (y.2 = .local → y.1 = p)
  free : ∀ y ∈ scope.names, y.2 = .free → sc.names.lookup y.1 = some .cell ∨ sc.names.lookup y.1 = some .free
def lamPB (sc scope : Scope) (p : Str) : Bool :=
  decide (scope.kind = .function) && !scope.isCoroutine && !scope.isGenerator && (scope.names.lookup p == some .local) && scope.names.all (fun y => !(y.2 == .cell)) && scope.names.all (fun y => scope.names.lookup y.1 == some y.2 && (!(y.2 == .local) || y.1 == p)) &&
  scope.names.all (fun y => !(y.2 == .free) || (sc.names.lookup y.1 == some .cell) || (sc.names.lookup y.1 == some .free))
theorem lamP_by {sc scope : Scope} {p : Str} (h : lamPB sc scope p = true) : LamP sc scope p := by
  simp only [lamPB, Bool.and_eq_true, decide_eq_true_eq, Bool.not_eq_true', List.all_eq_true, Bool.or_eq_true, beq_iff_eq, beq_eq_false_iff_ne, ne_eq] at h
  obtain ⟨⟨⟨⟨⟨⟨h1, h2⟩, h3⟩, h4⟩, h5⟩, h6⟩, h7⟩ := h
  refine ⟨h1, h2, h3, h4, h5, fun y hy => ⟨(h6 y hy).1, fun e => ?_⟩, fun y hy e => ?_⟩
  · rcases (h6 y hy).2 with z | z
    · exact absurd e z
    · exact z
  · rcases h7 y hy with (z | z) | z
    · exact absurd e z
    · exact .inl z
    · exact .inr z
section
variable {X : Cx} {pins : List (Addr × Obj)} {σ : L2.St} {H : Hp} {s : Shared}
theorem LamP.has {scope : Scope} {p : Str} (L : LamP X.env.scope scope p) (ok : X.Ok) : ∀ y ∈ scope.names, y.2 = .free → ∃ c, X.env.cells.lookup y.1 = some c := fun y hy e => ok.has y.1 ((L.free y hy e).elim .inl .inr)
theorem lamP_start {A : Around} {E : XK} {scope : Scope} {f c' : Addr} {p : Str} {ip : Nat} {v : V} {u : Value} {h₁ : Heap} {tk : Nat} (I : Inv X pins σ H s) (L : LamP X.env.scope scope p) (hN : X.N.Nodup) (hp : X.N[ip]? = some p) (e0 : Env0 X.prog X.w X.K X.mg X.base A X.stack s H) (hd : A.handled = none) (rv : RelV v u)
    (hns : h₁.Ns s.heap.objs.size fun y => ([(p, u)] : List (Str × Value)).reverse.lookup y) (kp : ∀ b o, s.heap.get? b = some o → h₁.get? b = some o) :
    Inv (lamCx X A X.stack s H E scope f c') [] (σ.set ip (some v)) H { s with heap := h₁, toks := tk } := by
  have hfree := L.has I.ok
  have cellOf : ∀ {y c}, (cloFrom X.env.cells scope.names []).lookup y = some c → X.env.cells.lookup y = some c := by
    intro y c e
    rcases cloFrom_mem (PySem.mem_of_lookup e) with hm | ⟨h1, h2⟩
    · cases hm
    · obtain ⟨c1, hc⟩ := hfree _ h1 rfl
      have hc : X.env.cells.lookup y = some c1 := hc
      have : c = c1 := by rw [h2, hc]; rfl
      rw [this, hc]
  have cellAt : ∀ {y}, scope.names.lookup y = some .free → ∃ c, (cloFrom X.env.cells scope.names []).lookup y = some c := fun {y} hl => mem_lookup (cloFrom_has (cells := X.env.cells) (acc := []) (show (y, NameKind.free) ∈ scope.names from PySem.mem_of_lookup hl))
  have cellK : ∀ {c : Addr} {v : Option Value}, s.heap.IsCell c v → h₁.IsCell c v := fun {c v} ⟨o, ho, hd⟩ => ⟨o, kp _ _ ho, hd⟩
  have noA : ∀ b : Addr, b ∉ (lamCx X A X.stack s H E scope f c').ex := fun b z => absurd (show b ∈ ([] : List Addr) from z) (by simp)
  refine ⟨⟨e0.mod, L.kind, rfl, rfl, Nat.le_refl _, fun y z c e1 e2 => I.ok.inj y z c (cellOf e1) (cellOf e2), fun y hy => ?a, fun y c z _ => ?b, fun _ => hd, Around.frames_deeper e0.frames, .inr ⟨rfl, rfl⟩, fun b z => absurd z (noA b), e0.bs, e0.bsz, fun b _ _ => noA b, fun b z => absurd z (noA b), e0.funs, e0.frf⟩,
    rfl, e0.bare, Un.kept kp, ⟨_, hns, fun i y v' e1 e2 e3 => ?c⟩, fun y c e => ?d, e0.hok.fresh (Nat.le_refl _), fun y c e => ?e, fun q hq => absurd (show q ∈ ([] : List (Addr × Obj)) ++ [] from hq) (by simp), e0.hok.kept kp, by rw [List.length_set]; exact I.len⟩
  case a =>
    have hy : scope.names.lookup y = some .cell ∨ scope.names.lookup y = some .free := hy
    rcases hy with hy | hy
    · exact absurd rfl (L.own _ (PySem.mem_of_lookup hy))
    · exact cellAt hy
  case b =>
    have z : false = true := z
    cases z
  case c =>
    have e1 : X.N[i]? = some y := e1
    have e3 : Vis scope y := e3
    by_cases hi : ip = i
    · subst hi
      rw [hp] at e1
      cases e1
      have hl : ip < σ.length := by rw [I.len]; exact (List.getElem?_eq_some_iff.mp hp).1
      rw [List.getElem?_set_self hl] at e2
      cases e2
      refine ⟨u, rv, .inl ⟨?_, ?_⟩⟩
      · show scope.names.lookup p = some .local
        exact L.par
      · show ([(p, u)] : List (Str × Value)).reverse.lookup p = some u
        simp [List.lookup]
    · rw [List.getElem?_set_ne hi] at e2
      have np : y ≠ p := fun z => by
        subst z
        exact hi (nodup_ix hN hp e1)
      rcases e3 with k | k | k
      · exact absurd ((L.loc _ (PySem.mem_of_lookup k)).2 rfl) np
      · exact absurd rfl (L.own _ (PySem.mem_of_lookup k))
      · obtain ⟨m, hn, hl⟩ := I.loc
        have hvis : Vis X.env.scope y := (L.free _ (PySem.mem_of_lookup k) rfl).elim (fun k => .inr (.inl k)) (fun k => .inr (.inr k))
        obtain ⟨w', r, q⟩ := hl i y v' e1 e2 hvis
        obtain ⟨c2, h2⟩ := cellAt k
        refine ⟨w', r, .inr ⟨.inr k, c2, h2, ?_⟩⟩
        have c1 := cellOf h2
        rcases q with ⟨k', _⟩ | ⟨_, c3, e', z⟩
        · have k' : X.env.scope.names.lookup y = some .local := k'
          rcases L.free _ (PySem.mem_of_lookup k) rfl with k2 | k2 <;> rw [show X.env.scope.names.lookup y = _ from k2] at k' <;> cases k'
        · rw [c1] at e'
          cases e'
          exact cellK z
  case d =>
    obtain ⟨w', z⟩ := I.cell y c (cellOf e)
    exact ⟨w', cellK z⟩
  case e => exact I.freeC y c (cellOf e)
/-- f(u), f the lambda, where the maker's frame stands -/
theorem lamP_call {A : Around} {E : XK} {scope : Scope} {params : Arguments} {body : Expr} {f c' : Addr} {pm ctv : Value} {p : Str} {ip k : Nat} {v : V} {u : Value} {tb : TE} {Q : VK} (I : Inv X pins σ H s) (L : LamP X.env.scope scope p) (hN : X.N.Nodup) (hp : X.N[ip]? = some p)
    (hf : s.heap.get? f = some (PySem.W.kla_obj "<lambda>" (X.env.qual ++ "<lambda>") params body scope (cloFrom X.env.cells scope.names []) pm c' ctv)) (hco : H c' = some (CodeO c' (X.env.qual ++ "<lambda>")))
    (hbind : ∀ u, bindArgs (PySem.W.kla_fn "<lambda>" (X.env.qual ++ "<lambda>") params body scope (cloFrom X.env.cells scope.names []) pm (.ref c') ctv) ⟨[u], []⟩ = pure [(p, u)])
    (e0 : Env0 X.prog X.w X.K X.mg X.base A X.stack s H) (hr : Room (k + 1) A) (rv : RelV v u)
    (hbody : ∀ (A : Around) (s : Shared) (H : Hp), Room k (A.deeper (lamEnv X scope s.heap.objs.size f c')) → PE (lamCx X A X.stack s H E scope f c') body tb) (ht : tb (σ.set ip (some v)) H Q) :
    codeAny (model X.prog X.w) A (.call (.ref f) ⟨[u], []⟩) (CR (L2.CX X.prog X.w) X.stack X.prog X.w H s Q E) s := by
  obtain ⟨⟨oc, vs, t, hoc, hdc, hvc⟩, _, _⟩ := I.hok c' _ hco
  refine PySem.W.kla_callFunE hr.depth hf rfl L.co L.gen rfl ⟨c', oc, vs, t, rfl, hoc, hdc, hvc⟩ ?_
  rw [hbind]
  refine wpAny_pure (wpAny_newFunctionEnv (fun y hy => L.own y hy) (fun y hy => by rw [List.mem_singleton.mp hy]; exact L.par) (fun h₁ hns hsb => ⟨I.nolimit.fresh _ hsb, ?_⟩) L.kind)
  show codeAny _ _ (.expr body (lamEnv X scope s.heap.objs.size f c')) _ _
  have kp : ∀ b o, s.heap.get? b = some o → h₁.get? b = some o := fun b o e => hsb.extBut b o (Nat.ne_of_lt (Heap.lt_size e)) (Heap.get?_push_of_some _ e)
  have J : Inv (lamCx X A X.stack s H E scope f c') [] (σ.set ip (some v)) H { s with heap := h₁, toks := s.toks + ([(p, u)] : List (Str × Value)).length } := lamP_start I L hN hp e0 hr.hd rv hns kp
  refine PySem.W.kla_codeExpr (wpAny_mono ((hbody A s H ((hr.deeper _).mono (Nat.le_refl _))).run [] _ _ H Q J ht) (fun v s' hq => ?_) fun e s' hq => hq)
  obtain ⟨w', H', J', rv, q⟩ := hq
  exact ⟨w', H', J'.os, J'.bare, J'.base, J'.hok, rv, q⟩
end
end PL
set_option Elab.async false
set_option linter.all false
set_option maxRecDepth 100000
set_option maxHeartbeats 4000000
/-! sorting by a key that a lambda tells -/
namespace PL
open PySem PySem.Spec PyProof.Rows L2 LamX
section
variable {X : Cx} {pins : List (Addr × Obj)} {σ : L2.St} {H : Hp} {s : Shared} {T : Tb} {G : Gh} {ρ : En}
/-- an object that nobody tracks, and that may change -/
structure Loose (X : Cx) (pins : List (Addr × Obj)) (H : Hp) (a : Addr) : Prop where
  no : H a = none
  big : X.s_0.heap.objs.size ≤ a
  loc : a ≠ X.env.locals
  cell : ∀ x c, X.env.cells.lookup x = some c → c ≠ a
  pin : ∀ p ∈ X.pn ++ pins, p.1 ≠ a
  fs : a ∉ X.fs
theorem inv_loose (I : Inv X pins σ H s) {a : Addr} (h : s.heap.objs.size ≤ a) : Loose X pins H a where
  no := I.hok.fresh h
  big := Nat.le_trans I.sz h
  loc := Nat.ne_of_gt (Nat.lt_of_lt_of_le I.lt h)
  cell := fun x c e z => by
    obtain ⟨v, o, ho, _⟩ := I.cell x c e
    exact Nat.lt_irrefl _ (Nat.lt_of_lt_of_le (Heap.lt_size ho) (by rw [z]; exact h))
  pin := fun p hp z => by
    exact Nat.lt_irrefl _ (Nat.lt_of_lt_of_le (Heap.lt_size (I.pin p hp).1) (by rw [z]; exact h))
  fs := I.nofs h
theorem Loose.some {a : Addr} (l : Loose X pins H a) {H' : Hp} (h : H' a = none) {pins' : List (Addr × Obj)} (hp : ∀ p ∈ pins', p ∈ pins ∨ p.1 ≠ a) : Loose X pins' H' a :=
  ⟨h, l.big, l.loc, l.cell, fun p q => (List.mem_append.mp q).elim (fun z => l.pin p (List.mem_append_left _ z)) fun z => (hp p z).elim (fun y => l.pin p (List.mem_append_right _ y)) id, l.fs⟩
theorem inv_pinL (I : Inv X pins σ H s) {a : Addr} {o : Obj} (l : Loose X pins H a) (ho : s.heap.get? a = some o) (hc : ∀ v, o.data ≠ .cell v) : Inv X ((a, o) :: pins) σ H s := I.pins_of fun p hp => by
  rcases List.mem_cons.mp hp with rfl | hp
  · exact ⟨ho, l.no, l.loc, l.fs, hc⟩
  · exact I.pin p (List.mem_append_right _ hp)
theorem inv_drop {p : Addr × Obj} (I : Inv X (p :: pins) σ H s) : Inv X pins σ H s := I.pins_of fun q hq => I.pin q (List.mem_append_right _ (List.mem_cons_of_mem _ hq))
theorem inv_changed {a : Addr} {h' : Heap} (I : Inv X pins σ H s) (l : Loose X pins H a) (k : ∀ b o, b ≠ a → s.heap.get? b = some o → h'.get? b = some o) (tk : Nat) : Inv X pins σ H { s with heap := h', toks := tk } :=
  I.turned k l.no l.loc (.inr l.big) l.cell l.pin
theorem seq_no_cell {c : String} {xs : Array Value} {n : Nat} : ∀ v, (seqObj c xs n).data ≠ .cell v := fun v z => by cases z
/-- all that stands, but for three -/
def restOf (base h : Heap) (L a b : Addr) : List (Addr × Obj) := (List.range h.objs.size).filterMap fun c => if c = L ∨ c = a ∨ c = b ∨ (base.get? c).isSome = true then none else (h.get? c).map fun o => (c, o)
theorem restOf_mem {base h : Heap} {L a b c : Addr} {o : Obj} (h1 : c ≠ L) (h2 : c ≠ a) (h3 : c ≠ b) (h4 : base.get? c = none) (h5 : h.get? c = some o) : (c, o) ∈ restOf base h L a b := by
  refine List.mem_filterMap.mpr ⟨c, List.mem_range.mpr (Heap.lt_size h5), ?_⟩
  rw [if_neg (by rw [h4]; simp [h1, h2, h3]), h5]
  rfl
theorem restOf_of {base h : Heap} {L a b : Addr} {p : Addr × Obj} (hp : p ∈ restOf base h L a b) : h.get? p.1 = some p.2 ∧ p.1 ≠ L ∧ p.1 ≠ a ∧ p.1 ≠ b ∧ base.get? p.1 = none := by
  obtain ⟨c, _, e⟩ := List.mem_filterMap.mp hp
  split at e
  · cases e
  · rename_i hn
    cases e2 : h.get? c with
    | none => rw [e2] at e; cases e
    | some o =>
      rw [e2] at e
      cases e
      simp only [not_or] at hn
      refine ⟨e2, hn.1, hn.2.1, hn.2.2.1, ?_⟩
      cases q : base.get? c with
      | none => rfl
      | some _ => rw [q] at hn; exact absurd rfl hn.2.2.2
/-- the keys told: the end of the sort -/
theorem key_fin {a kS : Addr} {us : List Value} {kA : Array Value} {e e1 : Nat} {kvs vs : List V} {ds : List PyData} {A : Around} {E : Value → Shared → Prop} {P : PySem.Fin → Shared → Prop} {k : PyData → PyData} (I : Inv X pins σ H s) (r : Rep T X.K G ρ σ H)
    (la : Loose X pins H a) (lk : Loose X pins H kS) (hka : kS ≠ a) (ha : s.heap.get? a = some (seqObj "list" #[] e1)) (hk : s.heap.get? kS = some (seqObj "list" kA e)) (hv : Vals vs us) (hd : DaAll X.K (hide G.O H) vs ds)
    (hkv : Vals kvs kA.toList) (hkd : DaAll X.K (hide G.O H) kvs (ds.map k)) (hz : us.length ≤ sizeLine) (hpl : PyData.plainAll (ds.map k) = true) (hal : PySem.W.AllAlike (ds.map k)) (hsk : PySem.W.Sortable (ds.map k)) (hu : ∀ d ∈ ds.map k, A.units + d.depth < cLine)
    (h : ∀ s' outV, Inv X pins σ (upd H a (.lst outV)) s' → DaAll X.K (hide G.O H) outV (ds.mergeSort (PySem.W.dataLe false k)) → P (.done (.ret .none)) s') :
    wpAny (model X.prog X.w) A (ksk_end a false us.toArray e1 (.ref kS) kA) P E s := by
  obtain ⟨m, F⟩ := I.fr
  have bno : ∀ {c : Addr}, X.s_0.heap.objs.size ≤ c → X.base.get? c = none := fun hc => Heap.get?_none_of_le (Nat.le_trans I.ok.bsz hc)
  have N : News X.base X.env.locals s.heap (restOf X.base s.heap X.env.locals a kS ++ [(kS, seqObj "list" kA e), (a, seqObj "list" #[] e1)]) := fun p hp => by
    rcases List.mem_append.mp hp with hp | hp
    · obtain ⟨q1, q2, _, _, q3⟩ := restOf_of hp
      exact ⟨q1, q2, q3⟩
    · rcases List.mem_cons.mp hp with rfl | hp
      · exact ⟨hk, lk.loc, bno lk.big⟩
      · rw [List.mem_singleton.mp hp]
        exact ⟨ha, la.loc, bno la.big⟩
  have er := each_reads I hkv hkd hpl
  have er' : PySem.W.EachIs (fun v d => ∃ as, Reads s.heap v d as) kA.toList (ds.map k) := er
  have hlen : kA.size = us.length := by
    have h1 : kvs.length = kA.size := by rw [hkv.length, Array.length_toList]
    have h2 : kvs.length = ds.length := by rw [hkd.length, List.length_map]
    exact (h1.symm.trans h2).trans (hd.length.symm.trans hv.length)
  refine PySem.W.key_end (κ := PySem.W.dataKind s.heap (ds.map k)) (vs := us) F N hka (fun p hp => (restOf_of hp).2.2.2.1) (fun p hp => (restOf_of hp).2.2.1) (PySem.W.SortsAt.data er' hal hsk hu) hlen hz fun h3 tk c F3 N3 => ?_
  have out := PySem.W.keyedOut_each (rev := false) (R := fun u d => ∃ v, RelV v u ∧ Da X.K (hide G.O H) v d) k ⟨s.heap, kA.toList, hal, rfl, er'⟩ (each_da hv hd)
  obtain ⟨outV, o1, o2⟩ := each_out out
  have keep : ∀ b o, b ≠ X.env.locals → b ≠ a → b ≠ kS → s.heap.get? b = some o → h3.get? b = some o := fun b o n1 n2 n3 hb => by
    cases q : X.base.get? b with
    | some o' =>
      have := I.bk b o' q
      rw [hb] at this
      cases this
      exact F3.keep b o q
    | none => exact (N3 _ (List.mem_cons_of_mem _ (restOf_mem n1 n2 n3 q hb))).1
  have nch : ∀ {b : Addr}, b ∉ [a, kS] → b ≠ a ∧ b ≠ kS := fun h => ⟨fun z => h (by simp [z]), fun z => h (by simp [z])⟩
  have trk : ∀ {b : Addr} {o : HO}, H b = some o → b ≠ a ∧ b ≠ kS ∧ b ≠ X.env.locals := fun {b o} hb => ⟨fun z => (by rw [z, la.no] at hb; cases hb), fun z => (by rw [z, lk.no] at hb; cases hb), fun z => (by rw [z, I.free] at hb; cases hb)⟩
  have hH : ∀ {b : Addr} {o : HO}, H b = some o → upd H a (.lst outV) b = some o := fun {b o} hb => by rw [upd_ne (trk hb).1]; exact hb
  have hL := (N3 _ List.mem_cons_self).1
  refine h _ outV (I.step (g' := s.gens) (t' := tk) (d' := s.drawn) (ch := [a, kS]) (fun b hb => ?_) (fun b o n _ hc hb _ => keep b o n (nch hc).1 (nch hc).2 hb) (fun b o n _ hc hb _ => ⟨o.slots, keep b o n (nch hc).1 (nch hc).2 hb⟩) (fun b o hc hb hn => by rw [upd_ne (nch hc).1]; exact hn)
    (fun b o hc hb => ?_) (fun b xs hb => hH hb) (fun b o u hb => hH hb) (fun b ps hb => ⟨#[], by rw [hH hb]; simp⟩) (fun m' hm => ?_) (fun b o hb => ?_) I.bare) o2
  · simp only [List.mem_cons, List.not_mem_nil, or_false] at hb
    rcases hb with rfl | rfl
    · exact ⟨.inr la.big, la.loc, la.cell, la.pin⟩
    · exact ⟨.inr lk.big, lk.loc, lk.cell, lk.pin⟩
  · by_cases z : b = X.env.locals
    · obtain ⟨o', _, _, q, _⟩ := F3.ns
      exact ⟨o', by rw [z]; exact q⟩
    · exact ⟨o, keep b o z (nch hc).1 (nch hc).2 hb⟩
  · have e : m' = m := by
      obtain ⟨o1, es1, ep1, a1, a2, _, a4⟩ := hm
      obtain ⟨o2, es2, ep2, b1, b2, _, b4⟩ := F.ns
      rw [a1] at b1
      cases b1
      rw [a2] at b2
      cases b2
      funext y
      rw [← a4 y, ← b4 y]
    rw [e]
    exact F3.ns
  · by_cases z : b = a
    · subst z
      rw [upd_same] at hb
      cases hb
      refine ⟨?_, _, c, o1, hL⟩
      rw [o2.length, List.length_mergeSort, ← hd.length, hv.length]
      exact hz
    · rw [upd_ne z] at hb
      obtain ⟨n1, n2, n3⟩ := trk hb
      refine (I.hok b o hb).stay (fun c' u hc q => ?_) (fun c' q => hH q) fun c' xs q => hH q
      rcases hc with rfl | hc
      · exact keep _ u n3 n1 n2 q
      · obtain ⟨k1, k2, k3⟩ := trk hc
        exact keep _ u k3 k1 k2 q
/-- list.sort(key=f) of a new list: f told by a reading -/
theorem key_run {a f : Addr} {fo : Obj} {us : List Value} {n : Nat} {vs : List V} {ds : List PyData} {A : Around} {E : Value → Shared → Prop} {P : PySem.Fin → Shared → Prop} {k : PyData → PyData} (I : Inv X pins σ H s) (r : Rep T X.K G ρ σ H)
    (la : Loose X pins H a) (lf : Loose X pins H f) (hfa : f ≠ a) (ha : s.heap.get? a = some (seqObj "list" us.toArray n)) (hf : s.heap.get? f = some fo) (hfc : ∀ v, fo.data ≠ .cell v) (hv : Vals vs us) (hd : DaAll X.K (hide G.O H) vs ds)
    (hz : us.length ≤ sizeLine) (hpl : PyData.plainAll (ds.map k) = true) (hal : PySem.W.AllAlike (ds.map k)) (hsk : PySem.W.Sortable (ds.map k)) (hu : ∀ d ∈ ds.map k, A.units + d.depth < cLine)
    (turn : ∀ (pins' : List (Addr × Obj)) (s' : Shared) (H' : Hp) (v : V) (u : Value) (d : PyData), Inv X pins' σ H' s' → s'.heap.get? f = some fo → Rep T X.K G ρ σ H' → RelV v u → Da X.K (hide G.O H') v d → d ∈ ds →
      wpAny (model X.prog X.w) A (call (.ref f) [u]) (EP X pins' σ fun kv H'' => Rep T X.K G ρ σ H'' ∧ ExtN (hide G.O H') (hide G.O H'') ∧ Da X.K (hide G.O H'') kv (k d)) (fun _ _ => False) s')
    (h : ∀ s' H' outV, Inv X pins σ (upd H' a (.lst outV)) s' → Rep T X.K G ρ σ H' → H' a = none → ExtN (hide G.O H) (hide G.O H') → DaAll X.K (hide G.O H') outV (ds.mergeSort (PySem.W.dataLe false k)) → P (.done (.ret .none)) s') :
    wpAny (model X.prog X.w) A (ksk_tree a (.ref f) false) P E s := by
  obtain ⟨e1, ho1⟩ : ∃ e1, (s.heap.update a (Obj.mapSeq fun _ => (#[] : Array Value))).get? a = some (seqObj "list" #[] e1) := ⟨_, get?_update_seq ha fun _ => #[]⟩
  have sb := Heap.SameBut.update s.heap a (Obj.mapSeq fun _ => (#[] : Array Value))
  unfold ksk_tree
  refine wpAny_bind (listItems_at ha rfl (wpAny_bind (listUpdate_at ha rfl (wpAny_bind (seqEpoch_at ho1 rfl (wpAny_bind (wpAny_newTuple (wpAny_bind (wpAny_newList (wpAny_holding ?_) (Nat.zero_le _))) (by show us.length ≤ _; exact hz))))) (by rw [List.size_toArray]; exact hz) (Nat.zero_le _))))
  let h2 : Heap := ((s.heap.update a (Obj.mapSeq fun _ => (#[] : Array Value))).push (seqObj "tuple" us.toArray 0)).push (seqObj "list" #[] 0)
  let kS : Addr := ((s.heap.update a (Obj.mapSeq fun _ => (#[] : Array Value))).push (seqObj "tuple" us.toArray 0)).objs.size
  have sz0 : s.heap.objs.size ≤ kS := by
    show _ ≤ ((s.heap.update a _).push _).objs.size
    rw [size_push', Heap.size_update]
    exact Nat.le_succ _
  have I1 : Inv X pins σ H { s with heap := s.heap.update a (Obj.mapSeq fun _ => (#[] : Array Value)), toks := s.toks } := inv_changed I la (fun b o nb hb => (sb.2 b nb).trans hb) s.toks
  have I2 : Inv X pins σ H { s with heap := h2, toks := s.toks } := I1.kept fun b o hb => Heap.get?_push_of_some _ (Heap.get?_push_of_some _ hb)
  have lk : Loose X pins H kS := inv_loose I sz0
  have hk2 : h2.get? kS = some (seqObj "list" #[] 0) := Heap.get?_push_size _ rfl
  have ha2 : h2.get? a = some (seqObj "list" #[] e1) := Heap.get?_push_of_some _ (Heap.get?_push_of_some _ ho1)
  have hf2 : h2.get? f = some fo := Heap.get?_push_of_some _ (Heap.get?_push_of_some _ ((sb.2 f hfa).trans hf))
  have nka : kS ≠ a := fun z => Nat.lt_irrefl _ (Nat.lt_of_lt_of_le (Heap.lt_size ha) (by rw [← z]; exact sz0))
  have nkf : kS ≠ f := fun z => Nat.lt_irrefl _ (Nat.lt_of_lt_of_le (Heap.lt_size hf) (by rw [← z]; exact sz0))
  show wpAny (model X.prog X.w) A (ksk_rest a (.ref f) false us.toArray e1 (.ref kS)) P E { s with heap := h2, toks := s.toks }
  unfold ksk_rest
  refine wpAny_bind (wpAny_rule ?_)
  rw [List.forIn_toArray]
  have la2 : Loose X pins H a := la
  have I3 : Inv X ((kS, seqObj "list" #[] 0) :: (a, seqObj "list" #[] e1) :: (f, fo) :: pins) σ H { s with heap := h2, toks := s.toks } := I2.pins_of fun p hp => by
    simp only [List.mem_cons] at hp
    rcases hp with rfl | rfl | rfl | hp
    · exact ⟨hk2, lk.no, lk.loc, lk.fs, seq_no_cell⟩
    · exact ⟨ha2, la.no, la.loc, la.fs, seq_no_cell⟩
    · exact ⟨hf2, lf.no, lf.loc, lf.fs, hfc⟩
    · exact I2.pin p (List.mem_append_right _ hp)
  refine wpAny_bind (ksk_fold (fun i s' => ∃ H' kA e kvs, Inv X ((kS, seqObj "list" kA e) :: (a, seqObj "list" #[] e1) :: (f, fo) :: pins) σ H' s' ∧ Rep T X.K G ρ σ H' ∧ ExtN (hide G.O H) (hide G.O H') ∧ Vals kvs kA.toList ∧ DaAll X.K (hide G.O H') kvs ((ds.take i).map k)) us 0 _
    ⟨H, #[], 0, [], I3, r, ExtN.refl _, .nil, .nil⟩ ?step ?done)
  case step =>
    rintro j u s' hx ⟨H', kA, e, kvs, I', r', e', hkv, hkd⟩
    simp only [Nat.zero_add] at hkd ⊢
    have hj : j < us.length := (List.getElem?_eq_some_iff.mp hx).1
    obtain ⟨v, d, hvj, hdj, ruv, hda⟩ : ∃ v d, vs[j]? = some v ∧ ds[j]? = some d ∧ RelV v u ∧ Da X.K (hide G.O H) v d := by
      have h1 : vs[j]? = some _ := List.getElem?_eq_getElem (by rw [hv.length]; exact hj)
      obtain ⟨u', h0, h2⟩ := hv.get h1
      rw [hx] at h0
      cases h0
      obtain ⟨d, h3, h4⟩ := hd.get h1
      exact ⟨_, d, h1, h3, h2, h4⟩
    have pf := (I'.pin (f, fo) (List.mem_append_right _ (by simp))).1
    refine wpAny_bind (wpAny_attempt (wpAny_mono (turn _ s' H' v u d I' pf r' ruv (hda.ext e') (List.mem_of_getElem? hdj)) (fun w s'' he => ?_) fun _ _ hF => hF.elim))
    obtain ⟨kv, H2, J, rw2, r2, e2, d2⟩ := he
    try dsimp only
    have nk := J.pin (kS, seqObj "list" kA e) (List.mem_append_right _ List.mem_cons_self)
    have na := J.pin (a, seqObj "list" #[] e1) (List.mem_append_right _ (by simp))
    have nf := J.pin (f, fo) (List.mem_append_right _ (by simp))
    have hz1 : kA.size ≤ us.length := by
      have h1 : kvs.length = kA.size := by rw [hkv.length, Array.length_toList]
      have h2 := hkd.length
      rw [List.length_map, List.length_take] at h2
      have h3 := hd.length
      have h4 := hv.length
      omega
    have sb2 := Heap.SameBut.update s''.heap kS (Obj.mapSeq (·.push w))
    obtain ⟨c2, hc2⟩ : ∃ c2, (s''.heap.update kS (Obj.mapSeq (·.push w))).get? kS = some (seqObj "list" (kA.push w) c2) := ⟨_, get?_update_seq nk.1 (·.push w)⟩
    have lk2 : Loose X ((a, seqObj "list" #[] e1) :: (f, fo) :: pins) H2 kS := lk.some nk.2.1 fun p hp => by
      simp only [List.mem_cons] at hp
      rcases hp with rfl | rfl | hp
      · exact .inr (Ne.symm nka)
      · exact .inr (Ne.symm nkf)
      · exact .inl hp
    have J2 : Inv X ((a, seqObj "list" #[] e1) :: (f, fo) :: pins) σ H2 { s'' with heap := s''.heap.update kS (Obj.mapSeq (·.push w)), toks := s''.toks } := inv_changed (inv_drop J) lk2 (fun b o nb hb => (sb2.2 b nb).trans hb) s''.toks
    refine wpAny_bind (listUpdate_at nk.1 rfl (wpAny_pure ⟨rfl, H2, kA.push w, c2, kvs ++ [kv], inv_pinL J2 lk2 hc2 seq_no_cell, r2, e'.trans e2, ?_, ?_⟩) (Nat.le_trans hz1 hz) (by rw [Array.size_push]; exact Nat.succ_le_succ (Nat.le_trans hz1 hz)))
    · rw [Array.toList_push]
      exact hkv.append (.cons rw2 .nil)
    · rw [List.take_add_one, hdj, List.map_append]
      exact DaAll.append (hkd.ext e2) (.cons d2 .nil)
  case done =>
    rintro s' ⟨H', kA, e, kvs, I', r', e', hkv, hkd⟩
    rw [List.take_of_length_le (by rw [← hd.length, hv.length]; omega)] at hkd
    have nk := I'.pin (kS, seqObj "list" kA e) (List.mem_append_right _ List.mem_cons_self)
    have na := I'.pin (a, seqObj "list" #[] e1) (List.mem_append_right _ (by simp))
    try dsimp only
    refine wpAny_bind (listItems_at nk.1 rfl ?_)
    exact key_fin (inv_drop (inv_drop (inv_drop I'))) r' (la.some na.2.1 fun p hp => .inl hp) (lk.some nk.2.1 fun p hp => .inl hp) nka na.1 nk.1 hv (hd.ext e') hkv hkd hz hpl hal hsk hu fun s3 outV J3 hout => h s3 H' outV J3 r' na.2.1 e' hout
end
end PL
set_option Elab.async false
set_option linter.all false
set_option maxRecDepth 100000
set_option maxHeartbeats 4000000
namespace PL
open PySem PySem.Spec PyProof.Rows L2 LamX
section
variable {prog : Program} {w : World} {A : Around} {E : Value → Shared → Prop} {s : Shared}
/-- sorted(r, key=f): whatever r hands out -/
theorem sorted_over {r q : Addr} {Q : Value → Shared → Prop} (hcol : wpAny (model prog w) A.in1 (collect (.ref r)) (fun us s1 => us.length ≤ sizeLine ∧ wpAny (model prog w) A.in1.in1 (ksk_tree s1.heap.objs.size (.ref q) false) (fun f s' => f = .done (.ret .none) ∧ Q (.ref s1.heap.objs.size) s') E { s1 with heap := s1.heap.push (seqObj "list" us.toArray 0) }) E s) :
    wpAny (model prog w) A (call (.builtin "sorted") [.ref r] [(Str.ofString "key", .ref q)]) Q E s := by
  refine call_function_entry_kw kind_sorted plain_sorted entry_sorted (ksk_s1 _ _) ?_
  unfold Builtin.«sorted»
  refine wpAny_bind (m := checkCount "sorted" 1 1 _) (wpAny_pure (wpAny_bind (wpAny_mono hcol (fun us s1 h => ?_) fun _ _ e => e)))
  obtain ⟨hz, h⟩ := h
  refine wpAny_bind (wpAny_newList (wpAny_bind (wpAny_holding (wpAny_call_entry_kw slot_list_sort ⟨_, Heap.get?_push_size _ rfl, rfl⟩ entry_list_sort ?_ (ksk_l1 _ _)))) hz)
  refine wpAny_mono h (fun f s' hf => ?_) fun _ _ e => e
  obtain ⟨rfl, hq⟩ := hf
  exact ⟨_, rfl, wpAny_pure ⟨_, rfl, hq⟩⟩
end
end PL
set_option Elab.async false
set_option linter.all false
set_option maxRecDepth 100000
set_option maxHeartbeats 4000000
namespace PL
open PySem PySem.Spec PyProof.Rows L2 LamX
section
variable {X : Cx} {pins : List (Addr × Obj)} {σ : L2.St} {H H' : Hp} {s : Shared} {T : Tb} {G : Gh} {ρ : En} {W : WX} {K : PySem.W.Frag}
/-! ### what is sorted -/
/-- a list, or a range from nought -/
def KVal (K : PySem.W.Frag) (H : Hp) (v : V) (ds : List PyData) : Prop :=
  (∃ a vs, v = .ref a ∧ H a = some (.lst vs) ∧ DaAll K H vs ds) ∨ ∃ (a : Addr) (n : Int), v = .ref a ∧ H a = some (.rng 0 n) ∧ 0 ≤ n ∧ n ≤ 100000 ∧ ds = rangeD 0 n.toNat
theorem KVal.ext {v : V} {ds : List PyData} (h : KVal K H v ds) (e : ExtN H H') : KVal K H' v ds := by
  rcases h with ⟨a, vs, h1, h2, h3⟩ | ⟨a, n, h1, h2, h3⟩
  · exact .inl ⟨a, vs, h1, e _ _ h2 (fun ps z => by cases z), h3.ext e⟩
  · exact .inr ⟨a, n, h1, e _ _ h2 (fun ps z => by cases z), h3⟩
def liftK (T : Tb) (K : PySem.W.Frag) (W : WX) (w : PWs) : TE := fun σ H Q => ∃ G ρ, Rep T K G ρ σ H ∧ w ρ (fun ds => ∀ v H', Rep T K G ρ σ H' → KVal K (hide G.O H') v ds → Q v H') (exOut T K W G ρ σ)
structure DK (T : Tb) (X : Cx) (W : WX) (e : Expr) (w : PWs) : Prop where
  pe : PE X e (liftK T X.K W w)
  mono : Mono w
theorem mono_itL {w : PW} (m : Mono w) : Mono (wItL w) := fun ρ Q Q' E E' hq he h => m _ _ _ _ _ (fun d hd => by cases d <;> first | exact hq _ hd | exact hd) he h
theorem dk_list {e : Expr} {w : PW} (h : DE T X W e w) : DK T X W e (wItL w) := ⟨pe_mono h.pe fun σ H Q q => by
  obtain ⟨G, ρ, r, q⟩ := q
  refine ⟨G, ρ, r, h.mono _ _ _ _ _ (fun d hd v H' r' a => ?_) (fun _ z => z) q⟩
  cases a with
  | lst h1 h2 => exact hd _ H' r' (.inl ⟨_, _, rfl, h1, h2⟩)
  | _ => exact hd.elim, mono_itL h.mono⟩
def wKr (w : PW) : PWs := fun ρ Q E => w ρ (fun d => match d with | .int n => (0 ≤ n ∧ n ≤ 100000) ∧ Q (rangeD 0 n.toNat) | _ => False) E
theorem dk_range {a : Expr} {w : PW} {p pos : Pos} (hg : Gl X "range") (hm : X.mg "range" = none) (ha : DE T X W a w) (na : starEach [a] X.env = (false, eval a X.env) :: starEach [] X.env := by rfl) : DK T X W (.Call (.Name "range" p) [a] [] pos) (wKr w) :=
  ⟨⟨fun pins s σ H Q I h => by
    refine Call_ (ld_blt I hg hm boot_range (PyProof.Rows.callWith_type1 (one_arg (ta := fun σ H Q => lift T X.K W w σ H Q) ha.pe (R := fun x H2 => ∃ n : Int, x = .int n ∧ ∀ q, H2 q = none → Q (.ref q) (upd H2 q (.rng 0 n))) I ?_ (fun v s2 x H2 I2 r q => ?_) na) na))
    · obtain ⟨G, ρ, r, q⟩ := h
      refine ⟨G, ρ, r, ha.mono _ _ _ _ _ (fun d hd v H' r' a => ?_) (fun _ z => z) q⟩
      cases a with
      | int n =>
        refine ⟨n, rfl, fun q hq => ?_⟩
        obtain ⟨r2, e2, np, hh⟩ := r'.new (o := .rng 0 n) hq
        exact hd.2 _ _ r2 (.inr ⟨q, n, rfl, hh, hd.1.1, hd.1.2, rfl⟩)
      | _ => exact hd.elim
    · obtain ⟨n, rfl, q⟩ := q
      obtain ⟨t, rfl⟩ := r
      exact call_range_1 ⟨.ref s2.heap.objs.size, upd H2 s2.heap.objs.size (.rng 0 n), I2.laid (fun b u e => Heap.get?_push_of_some _ e) (Nat.le_refl _) (show ObjOk X.prog X.w _ _ _ (.rng 0 n) from ⟨_, _, _, Heap.get?_push_size _ rfl⟩), rfl, q _ (I2.hok.fresh (Nat.le_refl _))⟩⟩,
   fun ρ Q Q' E E' hq he h => ha.mono _ _ _ _ _ (fun d hd => by cases d <;> first | exact ⟨hd.1, hq _ hd.2⟩ | exact hd) he h⟩
/-! ### back from the lambda's slots -/
theorem Rep.restore {ip : Nat} {d : PyData} {v : V} (r0 : Rep T K G ρ σ H) (r1 : Rep T K G (ρ.set ip (.sh d)) (σ.set ip (some v)) H') (e : ExtN (hide G.O H) (hide G.O H')) (no : ∀ s0, ρ[ip]? = some s0 → s0.owned = false) : Rep T K G ρ σ H' where
  len := r0.len
  slot i s hs := by
    by_cases z : ip = i
    · subst z
      obtain ⟨u, h1, h2⟩ := r0.slot ip s hs
      refine ⟨u, h1, ?_⟩
      have := no s hs
      cases s with
      | un => trivial
      | sh d => obtain ⟨x, h3, h4⟩ := h2; exact ⟨x, h3, h4.ext e⟩
      | dice => exact h2
      | scr ns => obtain ⟨a, h3, h4⟩ := h2; exact ⟨a, h3, sqL_ext e h4⟩
      | _ => cases this
    · obtain ⟨u, h1, h2⟩ := r1.slot i s (by rw [List.getElem?_set_ne z]; exact hs)
      rw [List.getElem?_set_ne z] at h1
      exact ⟨u, h1, h2⟩
  sep i j s t a hij hi hj hs ht e1 e2 := by
    by_cases z : ip = i
    · subst z; rw [no s hi] at hs; cases hs
    · by_cases z' : ip = j
      · subst z'; rw [no t hj] at ht; cases ht
      · exact r1.sep i j s t a hij (by rw [List.getElem?_set_ne z]; exact hi) (by rw [List.getElem?_set_ne z']; exact hj) hs ht (by rw [List.getElem?_set_ne z]; exact e1) (by rw [List.getElem?_set_ne z']; exact e2)
  tab := r1.tab
  ext := r1.ext
  dom := r1.dom
  fly := r1.fly
  dcs := r1.dcs
/-! ### the rule -/
def wSortK (ip : Nat) (wi : PWs) (wb : PW) : PW := fun ρ Q E => NoOwn [ip] ρ ∧ wi ρ (fun ds => ∃ k : PyData → PyData, (∀ d ∈ ds, wb (ρ.set ip (.sh d)) (fun z => z = k d) (fun _ => False)) ∧
  (ds.length ≤ 100000 ∧ PyData.plainAll (ds.map k) = true ∧ (∀ d ∈ ds.map k, d.depth ≤ 30) ∧ PySem.W.AllAlike (ds.map k) ∧ PySem.W.Sortable (ds.map k)) ∧ Q (.list (ds.mergeSort (PySem.W.dataLe false k)))) E
/-- list(x), then list.sort, of what is sorted -/
theorem col_run {A : Around} {r0 : V} {ds : List PyData} {u : Value} {E : Value → Shared → Prop} {R : List Value → Shared → Prop} (hh : A.handled = none) (I : Inv X pins σ H s) (hk : KVal X.K (hide G.O H) r0 ds) (rv : RelV r0 u) (hz : ds.length ≤ 100000)
    (h : ∀ r us vs h' tk, u = .ref r → (∀ b o, s.heap.get? b = some o → h'.get? b = some o) → Vals vs us → DaAll X.K (hide G.O H) vs ds → R us { s with heap := h', toks := tk }) : ∃ r, u = .ref r ∧ wpAny (model X.prog X.w) A (collect (.ref r)) R E s := by
  rcases hk with ⟨a, vs, rfl, h1, h2⟩ | ⟨a, n, rfl, h1, h0, h3, rfl⟩
  · obtain rfl : u = Value.ref a := rv
    obtain ⟨its, r, pl, hz2⟩ := I.list (SqL.of (hide_some h1).2)
    refine ⟨a, rfl, collect_list (vs := its) pl.isList (h a its vs _ s.toks rfl (fun b o hb => ?_) r h2) (by rw [← r.length]; exact hz2)⟩
    rw [Heap.get?_update_ne _ _ _ _ (Nat.ne_of_lt (Heap.lt_size hb))]
    exact Heap.get?_push_of_some _ hb
  · obtain rfl : u = Value.ref a := rv
    obtain ⟨t, u', v', ho⟩ := (show ObjOk X.prog X.w H s.heap a (.rng 0 n) from I.hok a _ (hide_some h1).2)
    refine ⟨a, rfl, collect_range (n := (n - 0).toNat) hh (show IsRange s.heap a 0 n 1 t u' v' from ho) (small_one (by omega) (by omega) (by omega) (by omega)) (rangeSize_nat 0 n) (by omega) fun h' tk acc hk hi => ?_⟩
    refine h a acc.toList (rgV 0 n) h' tk rfl hk (vals_rg hi) ?_
    have e : rgV 0 n = (List.range n.toNat).map fun i => V.int (0 + (i : Nat)) := by unfold rgV; rw [Int.sub_zero]
    rw [e, rangeD]
    have key : ∀ l : List Nat, DaAll X.K (hide G.O H) (l.map fun i => V.int (0 + (i : Nat))) (l.map fun i => PyData.int (0 + (i : Nat))) := fun l => by
      induction l with
      | nil => exact .nil
      | cons i t ih => exact .cons (.int _) ih
    exact key _
theorem cx_false {P : Program} {w : World} {outer : List Env} {H : Hp} {s : Shared} {e : Value} {s' : Shared} (h : L2.CX P w outer H s (fun _ _ _ => False) e s') : False := by
  obtain ⟨_, _, _, _, _, _, _, _, _, _, _, _, z⟩ := h
  exact z
theorem sortk_core {G2 : Gh} {c' f ip k0 : Nat} {params : Arguments} {body : Expr} {scope : Scope} {pm ctv : Value} {p : Str} {r0 : V} {u : Value} {ds : List PyData} {wb : PW} {k : PyData → PyData} {Q : VK} {E : Value → Shared → Prop} (I : Inv X pins σ H s) (r : Rep T X.K G ρ σ H) (r2 : Rep T X.K G2 ρ σ H) (eO : G2.O = G.O)
    (back : ∀ H', Rep T X.K G2 ρ σ H' → Rep T X.K G ρ σ H') (codeK : ∀ H', Rep T X.K G2 ρ σ H' → H' c' = some (CodeO c' (X.env.qual ++ "<lambda>")))
    (L : LamP X.env.scope scope p) (hN : X.N.Nodup) (hp : X.N[ip]? = some p) (hf : s.heap.get? f = some (PySem.W.kla_obj "<lambda>" (X.env.qual ++ "<lambda>") params body scope (cloFrom X.env.cells scope.names []) pm c' ctv)) (lf : Loose X pins H f)
    (hbind : ∀ u, bindArgs (PySem.W.kla_fn "<lambda>" (X.env.qual ++ "<lambda>") params body scope (cloFrom X.env.cells scope.names []) pm (.ref c') ctv) ⟨[u], []⟩ = pure [(p, u)])
    (hr : Room (k0 + 4) X.A) (hbody : ∀ (A : Around) (s : Shared) (H : Hp), Room k0 (A.deeper (lamEnv X scope s.heap.objs.size f c')) → DE T (lamCx X A X.stack s H (fun _ _ _ => False) scope f c') W0 body wb) (mb : Mono wb)
    (hk : KVal X.K (hide G.O H) r0 ds) (rv : RelV r0 u) (no : NoOwn [ip] ρ) (hw : ∀ d ∈ ds, wb (ρ.set ip (.sh d)) (fun z => z = k d) (fun _ => False))
    (hc : ds.length ≤ 100000 ∧ PyData.plainAll (ds.map k) = true ∧ (∀ d ∈ ds.map k, d.depth ≤ 30) ∧ PySem.W.AllAlike (ds.map k) ∧ PySem.W.Sortable (ds.map k))
    (hq : ∀ a vs H', Rep T X.K ⟨G.Hb, a :: G.O, G.fl⟩ ρ σ H' → a ∉ G.O → Apt ρ σ a → H' a = some (.lst vs) → DaAll X.K (hide (a :: G.O) H') vs (ds.mergeSort (PySem.W.dataLe false k)) → Q (.ref a) H') :
    wpAny (model X.prog X.w) X.A (call (.builtin "sorted") [u] [(Str.ofString "key", .ref f)]) (EP X pins σ Q) E s := by
  obtain ⟨h1, h2, h3, h4, h5⟩ := hc
  obtain ⟨rr, rfl, hcol⟩ := col_run (A := X.A.in1) (E := E) (R := fun us s1 => us.length ≤ sizeLine ∧ wpAny (model X.prog X.w) X.A.in1.in1 (ksk_tree s1.heap.objs.size (.ref f) false) (fun g s' => g = .done (.ret .none) ∧ EP X pins σ Q (.ref s1.heap.objs.size) s') E { s1 with heap := s1.heap.push (seqObj "list" us.toArray 0) }) hr.hd I hk rv h1 (fun r1 us vs h' tk er kp hv hd => by
    have hz : us.length ≤ sizeLine := by rw [← hv.length, hd.length, sizeLine_eq]; omega
    refine ⟨hz, ?_⟩
    have I1 : Inv X pins σ H { s with heap := h', toks := tk } := I.kept kp
    have I2 : Inv X pins σ H { s with heap := h'.push (seqObj "list" us.toArray 0), toks := tk } := I1.kept fun b o e => Heap.get?_push_of_some _ e
    have la : Loose X pins H h'.objs.size := inv_loose I1 (Nat.le_refl _)
    have hf2 : (h'.push (seqObj "list" us.toArray 0)).get? f = some _ := Heap.get?_push_of_some _ (kp _ _ hf)
    refine key_run (T := T) (G := G2) (ρ := ρ) (k := k) I2 r2 la lf (Nat.ne_of_lt (Heap.lt_size (kp _ _ hf))) (Heap.get?_push_size _ rfl) hf2 (fun v z => by cases z) hv (by rw [eO]; exact hd) hz h2 h4 h5 (fun d hd' => by have := h3 d hd'; have := hr.un; show X.A.units + 1 + 1 + d.depth < _; omega)
      (fun pins' s' H' v u d I' hf' r' rv' da hm => ?_) (fun s' H' outV J r' hn e hout => ⟨rfl, ?_⟩)
    · refine wpAny_call (codeAny_mono (lamP_call (A := X.A.in1.in1) (E := fun _ _ _ => False) (k := k0) (ip := ip) (v := v) (Q := fun kv H'' => Rep T X.K G2 ρ σ H'' ∧ ExtN (hide G2.O H') (hide G2.O H'') ∧ Da X.K (hide G2.O H'') kv (k d)) (tb := lift T X.K W0 wb) I' L hN hp hf' (codeK H' r') hbind I'.env0.in1.in1 ((hr.mono (by omega : k0 + 1 + 1 + 1 ≤ k0 + 4)).in1.in1) rv' (fun A s H hr' => (hbody A s H hr').pe) ?_) fun res s3 hres => ?_)
      · refine ⟨⟨hide G2.O H', G2.O, G2.fl⟩, ρ.set ip (.sh d), (r'.rebase).setSh da, mb _ _ _ _ _ (fun z hz' w H3 r3 a3 => ?_) (fun _ z => z.elim) (hw d hm)⟩
        subst hz'
        have e3 : ExtN (hide G2.O H') (hide G2.O H3) := r3.ext
        exact ⟨r'.restore (r3.unbase r'.ext) e3 (fun s0 hs0 => no ip (by simp) s0 hs0), e3, a3⟩
      · cases res with
        | error e => exact (cx_false hres).elim
        | ok fl => cases fl with
          | ret uu => exact I'.after hres
          | next => exact hres.elim
          | brk => exact hres.elim
          | cont => exact hres.elim
    · have rG := back H' r'
      rw [eO] at hout
      obtain ⟨q1, q2, q3, q4, q5⟩ := rG.newL hn hout
      exact ⟨.ref _, _, J, rfl, hq _ _ _ q1 q2 q3 q4 q5⟩)
  exact sorted_over hcol
theorem df_sortk {c P ip k0 : Nat} {e : Expr} {params : Arguments} {body : Expr} {scope : Scope} {p : Str} {wi : PWs} {wb : PW} {lpos kpos pos p1 : Pos} (hg : Gl X "sorted") (hm : X.mg "sorted" = none) (hi : DK T X W e wi)
    (B : TabB X.base X.mg c P) (hcode : X.env.code = .ref c) (hmT : (P, X.env.qual ++ "<lambda>") ∈ T.tl) (hu : ∀ q ∈ T.tl, q.1 = P → q.2 = X.env.qual ++ "<lambda>") (hnt : P ∉ T.tg) (hN : X.N.Nodup) (hp : X.N[ip]? = some p) (hr : Room (k0 + 4) X.A) (L : LamP X.env.scope scope p) (hdef : defaultsOf params X.env = ([], []))
    (hbind : ∀ (q : Str) (cl : List (Str × Addr)) (pm cv ctv : Value) (u : Value), bindArgs (PySem.W.kla_fn "<lambda>" q params body scope cl pm cv ctv) ⟨[u], []⟩ = pure [(p, u)])
    (hbody : ∀ (A : Around) (s : Shared) (H : Hp) (f c' : Addr), Room k0 (A.deeper (lamEnv X scope s.heap.objs.size f c')) → DE T (lamCx X A X.stack s H (fun _ _ _ => False) scope f c') W0 body wb)
    (he : backTo pos (starEach [e] X.env) = (false, eval e X.env) :: backTo pos (starEach [] X.env) := by rfl) (hpl : (backTo pos (starEach [e] X.env)).any (·.1) = false := by rfl) (na : starEach [e] X.env = (false, eval e X.env) :: starEach [] X.env := by rfl) : DF T X W (.Call (.Name "sorted" p1) [e] [⟨some (Str.ofString "key"), .Lambda params body scope lpos, kpos⟩] pos) (wSortK ip wi wb) := by
  have mb : Mono wb := (hbody X.A X.s_0 X.H_0 0 0 ((hr.deeper (k := k0 + 3) _).mono (by omega))).mono
  refine ⟨⟨fun pins s σ H Q I h => ?_⟩, fun ρ Q Q' E E' hq he h => ⟨h.1, hi.mono _ _ _ _ _ (fun ds ⟨k, h1, h2, h3⟩ => ⟨k, h1, h2, hq _ h3⟩) he h.2⟩⟩
  obtain ⟨G, ρ, r, no, q⟩ := h
  refine wpAny_Call_Name_kw (ld_blt I hg hm (by decide +kernel : bootBuiltins "sorted" = some (.builtin "sorted")) (PyProof.Rows.callWith_kw (one_arg hi.pe (R := fun v H1 => ∃ ds k, Rep T X.K G ρ σ H1 ∧ KVal X.K (hide G.O H1) v ds ∧ (∀ d ∈ ds, wb (ρ.set ip (.sh d)) (fun z => z = k d) (fun _ => False)) ∧ (ds.length ≤ 100000 ∧ PyData.plainAll (ds.map k) = true ∧ (∀ d ∈ ds.map k, d.depth ≤ 30) ∧ PySem.W.AllAlike (ds.map k) ∧ PySem.W.Sortable (ds.map k)) ∧
    (∀ a vs H', Rep T X.K ⟨G.Hb, a :: G.O, G.fl⟩ ρ σ H' → a ∉ G.O → Apt ρ σ a → H' a = some (.lst vs) → DaAll X.K (hide (a :: G.O) H') vs (ds.mergeSort (PySem.W.dataLe false k)) → Q (.ref a) H')) I ?_ (fun u s1 v H1 I1 rv hR => ?_) na) he hpl (by rfl) (by rfl)))
  · refine ⟨G, ρ, r, hi.mono _ _ _ _ _ (fun ds hd v H' r' a => ?_) (fun _ z => z) q⟩
    obtain ⟨k, h1, h2, h3⟩ := hd
    exact ⟨ds, k, r', a, h1, h2, fun a vs H' r2 na ap hH hD => h3 a vs _ H' rfl r2 na ap hH hD⟩
  · obtain ⟨ds, k, r1, kv, hw, hc, hQ⟩ := hR
    show wpAny _ _ (evalAll ((do let v ← eval (.Lambda params body scope lpos) X.env; standAt pos; pure v) :: [])) _ _ s1
    refine wpAny_evalAll_cons (wpAny_bind (lam_new (T := T) I1 B hcode hmT hu hnt r1.tab hdef (L.has I1.ok) fun f c' pm ctv H2 s2 I2 eN t2 hf hfn hfr hco hfs => wpAny_bind (wpAny_standAt (wpAny_pure (wpAny_evalAll_nil ?_)))))
    have r2 := r1.extB (r1.tab.l _ hmT) eN t2
    have lf : Loose X pins H2 f := (inv_loose I1 hfs).some hfn fun p hp => .inl hp
    have eH : ExtN (hide G.O H1) (hide G.O H2) := by
      obtain ⟨ps, e1, _⟩ := r1.tab.l _ hmT
      exact ext_hide fun b o _ hb hn => eN b o (fun z => by rw [z, e1] at hb; cases hb; exact hn _ rfl) hb
    show wpAny _ _ (call (.builtin "sorted") [u] [(Str.ofString "key", .ref f)]) _ _ s2
    by_cases hin : c' ∈ G.O
    · have nd : c' ∉ T.dc := fun z => by
        obtain ⟨_, ⟨x, y, w, e⟩, _⟩ := r2.dcs c' z
        rw [hco] at e
        cases e
      have r3 : Rep T X.K ⟨hide G.O H2, G.O, (c', CodeO c' (X.env.qual ++ "<lambda>")) :: G.fl⟩ ρ σ H2 := (r2.rebase).fly1 (G := ⟨hide G.O H2, G.O, G.fl⟩) hin hco nd
      exact sortk_core I2 r2 r3 rfl (fun H' r' => (Rep.land r').1.unbase r2.ext) (fun H' r' => (Rep.land r').2) L hN hp hf lf (hbind _ _ _ _ _) hr (fun A s H hr' => hbody A s H f c' hr') mb (kv.ext eH) rv no hw hc hQ
    · have r3 := r2.rebase
      exact sortk_core I2 r2 r3 rfl (fun H' r' => r'.unbase r2.ext) (fun H' r' => (hide_some (r'.ext _ _ (by show hide G.O H2 c' = _; rw [hide_out hin]; exact hco) (fun ps z => codeO_ne ps z))).2) L hN hp hf lf (hbind _ _ _ _ _) hr (fun A s H hr' => hbody A s H f c' hr') mb (kv.ext eH) rv no hw hc hQ
end
end PL
set_option Elab.async false
set_option linter.all false
set_option maxRecDepth 100000
set_option maxHeartbeats 2000000
namespace PL
open PySem PySem.Spec PyProof.Rows L2
open LamX (ExtN Tabs TabS)
/-! ### list comprehensions of two clauses -/
section
variable {T : Tb} {X : Cx} {W : WX} {pos p : Pos} {e a b c : Expr} {K : PySem.W.Frag} {G : Gh} {ρ ρ2 : En} {σ σ2 : L2.St} {H H' : Hp}
def goLc2 (g : GD) (wt : PWB) (wi1 : PWs) (g1 : GD) (wt1 : PWB) (we : PW) (vs1 : List Nat) (ρw : En) : List PyData → List PyData → (List PyData → Prop) → Prop
  | [], acc, Q => Q acc
  | d :: ds, acc, Q => g d ρw fun ρ2 => wt ρ2 (fun k => if k = true then wi1 ρ2 (fun es => goLc g1 wt1 we (wipeE ρ2 vs1) es acc (fun acc => goLc2 g wt wi1 g1 wt1 we vs1 ρw ds acc Q)) (fun _ => False) else goLc2 g wt wi1 g1 wt1 we vs1 ρw ds acc Q) (fun _ => False)
def wLc2 (wi : PWs) (g : GD) (wt : PWB) (wi1 : PWs) (g1 : GD) (wt1 : PWB) (we : PW) (vs vs1 : List Nat) : PW := fun ρ Q E => NoOwn vs ρ ∧ wi ρ (fun ds => goLc2 g wt wi1 g1 wt1 we vs1 (wipeE ρ vs) ds [] fun acc => Q (.list acc)) E
theorem goLc2_mono {g g1 : GD} {wt wt1 : PWB} {wi1 : PWs} {we : PW} {vs1 : List Nat} {ρw : En} (mg : ∀ d ρ Q Q', (∀ r, Q r → Q' r) → g d ρ Q → g d ρ Q') (mt : Mono wt) (mi1 : Mono wi1) (mg1 : ∀ d ρ Q Q', (∀ r, Q r → Q' r) → g1 d ρ Q → g1 d ρ Q') (mt1 : Mono wt1) (me : Mono we) {Q Q' : List PyData → Prop} (hq : ∀ d, Q d → Q' d) :
    ∀ (ds acc : List PyData), goLc2 g wt wi1 g1 wt1 we vs1 ρw ds acc Q → goLc2 g wt wi1 g1 wt1 we vs1 ρw ds acc Q'
  | [], acc, h => hq _ h
  | d :: ds, acc, h => mg _ _ _ _ (fun ρ2 h2 => mt _ _ _ _ _ (fun k hk => by
      cases k with
      | true => exact mi1 _ _ _ _ _ (fun es he => goLc_mono mg1 mt1 me (fun acc ha => goLc2_mono mg mt mi1 mg1 mt1 me hq ds acc ha) es acc he) (fun _ z => z) hk
      | false => exact goLc2_mono mg mt mi1 mg1 mt1 me hq ds _ hk) (fun _ z => z) h2) h
theorem mono_Lc2 {wi wi1 : PWs} {g g1 : GD} {wt wt1 : PWB} {we : PW} {vs vs1 : List Nat} (mi : Mono wi) (mg : ∀ d ρ Q Q', (∀ r, Q r → Q' r) → g d ρ Q → g d ρ Q') (mt : Mono wt) (mi1 : Mono wi1) (mg1 : ∀ d ρ Q Q', (∀ r, Q r → Q' r) → g1 d ρ Q → g1 d ρ Q') (mt1 : Mono wt1) (me : Mono we) : Mono (wLc2 wi g wt wi1 g1 wt1 we vs vs1) := fun ρ Q Q' E E' hq he h =>
  ⟨h.1, mi _ _ _ _ _ (fun ds hd => goLc2_mono mg mt mi1 mg1 mt1 me (fun acc ha => hq _ ha) ds [] hd) he h.2⟩
/-- the inner walk: what a list in flight gathers -/
theorem lcin {g : GD} {wt : PWB} {we : PW} {sl vs : List Nat} (mg : ∀ d ρ Q Q', (∀ r, Q r → Q' r) → g d ρ Q → g d ρ Q') (kg : ∀ d ρ Q, g d ρ Q → g d ρ fun ρ' => Q ρ' ∧ Off sl ρ ρ' ∧ Shd sl ρ') (mt : Mono wt) (me : Mono we) (hsl : ∀ i ∈ sl, i ∈ vs)
    {B : Hp} {O : List Addr} {fl : List (Addr × HO)} {D : Addr} {vs0 : List V} {acc0 es : List PyData} {J : It} {Qf : List PyData → Prop} {Nx : Hp → Prop} (r0 : Rep T K ⟨B, D :: O, (D, .lst vs0) :: fl⟩ ρ σ H) (ap : Apt ρ σ D) (nf : ∀ q ∈ fl, q.1 ≠ D) (no : NoOwn vs ρ) (ha0 : DaAll K (hide (D :: O) H) vs0 acc0)
    (wk : WkJ K (hide (D :: O) H) J es) (hgo : goLc g wt we (wipeE ρ vs) es acc0 Qf) (hfin : ∀ (vsa : List V) (acc : List PyData) (H' : Hp), Rep T K ⟨B, D :: O, (D, .lst vsa) :: fl⟩ ρ σ H' → DaAll K (hide (D :: O) H') vsa acc → Qf acc → Nx H') :
    ∃ W1 : Nat → Nat → Hp → Prop, (∃ m, W1 0 m H) ∧ ∀ j k H', W1 j k H' → (J.stop j H' ∧ Nx H') ∨ (J.go j H' ∧ ∃ Nx1 : Hp → Prop, (∀ H'', Nx1 H'' → ∃ k', k' < k ∧ W1 (j + 1) k' H'') ∧ ∀ x H'', J.yld j H' x H'' → liftG T K sl g x (L2.wipe σ vs) H'' fun σ3 H5 => L2.wipe σ3 vs = L2.wipe σ vs ∧ liftB T K W0 wt σ3 H5 fun b H6 =>
      if b = true then lift T K W0 we σ3 H6 fun y H7 => ∃ acc, H7 D = some (.lst acc) ∧ acc.length < sizeLine ∧ Nx1 (upd H7 D (.lst (acc ++ [y]))) else Nx1 H6) := by
  refine ⟨fun j k H2 => ∃ (vsa : List V) (acc : List PyData), k = es.length - j ∧ Rep T K ⟨hide (D :: O) H, D :: O, (D, .lst vsa) :: fl⟩ ρ σ H2 ∧ DaAll K (hide (D :: O) H2) vsa acc ∧ goLc g wt we (wipeE ρ vs) (es.drop j) acc Qf, ⟨_, vs0, acc0, rfl, r0.rebase, ha0, by rw [List.drop_zero]; exact hgo⟩, fun i m H2 hW => ?_⟩
  obtain ⟨vsa, acc, rfl, r2, ha, hgo⟩ := hW
  have dm : ∀ a ∈ D :: O, H2 a ≠ none := fun a ha z => by obtain ⟨o, e, _⟩ := r2.dom a ha; rw [z] at e; cases e
  obtain ⟨wk1, wk2⟩ := wk (D :: O) H2 r2.ext dm
  cases hd : es.drop i with
  | nil =>
    refine .inl ⟨wk2 i (List.drop_eq_nil_iff.mp hd), ?_⟩
    rw [hd] at hgo
    exact hfin vsa acc H2 (r2.unbase r0.ext) ha hgo
  | cons d rest =>
    have hi' : i < es.length := by
      by_cases z : i < es.length
      · exact z
      · rw [List.drop_eq_nil_of_le (by omega)] at hd; cases hd
    have hdi : es[i]? = some d := by
      have := List.drop_eq_getElem_cons hi'
      rw [hd] at this
      rw [List.getElem?_eq_getElem hi', ← (List.cons.inj this).1]
    have hrest : es.drop (i + 1) = rest := by
      have := List.drop_eq_getElem_cons hi'
      rw [hd] at this
      exact (List.cons.inj this).2.symm
    obtain ⟨jgo, yld⟩ := wk1 i d hdi
    rw [hd] at hgo
    refine .inr ⟨jgo, fun H' => ∃ (vsa : List V) (acc : List PyData), Rep T K ⟨hide (D :: O) H, D :: O, (D, .lst vsa) :: fl⟩ ρ σ H' ∧ DaAll K (hide (D :: O) H') vsa acc ∧ goLc g wt we (wipeE ρ vs) rest acc Qf, fun H' hN' => ?_, fun x H3 hy => ?_⟩
    · obtain ⟨vsa, acc, h1, h2, h3⟩ := hN'
      exact ⟨es.length - (i + 1), by omega, vsa, acc, rfl, h1, h2, by rw [hrest]; exact h3⟩
    · obtain ⟨al, hx⟩ := yld x H3 hy
      have r3 := r2.alloc al
      have e3 : ExtN (hide (D :: O) H2) (hide (D :: O) H3) := ext_hide fun b o _ h _ => al b o h
      have ha3 := ha.ext e3
      have r3b := r3.rebase
      have hgk := kg _ _ _ hgo
      refine ⟨_, _, d, (r3b.wipe vs), hx, mg _ _ _ _ (fun ρ2 h2 σ2 r4 w4 => ⟨?_, ?_⟩) hgk⟩
      · rw [w4 vs hsl, wipe_wipe]
      · obtain ⟨h2, off, _⟩ := h2
        have hw4 : L2.wipe σ2 vs = L2.wipe σ vs := by rw [w4 vs hsl, wipe_wipe]
        have offv : Off vs ρ ρ2 := fun j hj => by
          rw [off j (fun z => hj (hsl j z)), wipeE_get hj]
        refine liftB_intro mt r4 (mt _ _ _ _ _ (fun k hk H5 r5 e5 => ?_) (fun _ z => z.elim) h2)
        have back : ∀ {H6 : Hp}, Rep T K ⟨hide (D :: O) H3, D :: O, (D, .lst vsa) :: fl⟩ ρ2 σ2 H6 → Rep T K ⟨hide (D :: O) H, D :: O, (D, .lst vsa) :: fl⟩ ρ σ H6 := fun {H6} r6 => r3.unwipe r6 no offv hw4
        cases k with
        | false => exact ⟨vsa, acc, back r5, ha3.ext r5.ext, hk⟩
        | true =>
          have hk : we ρ2 (fun y => acc.length < sizeLine ∧ goLc g wt we (wipeE ρ vs) rest (acc ++ [y]) Qf) (fun _ => False) := hk
          refine lift_intro me r5 (me _ _ _ _ _ (fun y hy v H6 r6 e6 a6 => ?_) (fun _ z => z.elim) hk)
          have r7 := back r6
          refine ⟨vsa, (r6.fly _ List.mem_cons_self).2, by rw [ha3.length]; exact hy.1, vsa ++ [v], acc ++ [y], (r7.put ap nf (.inl ⟨_, rfl⟩) (.inl ⟨_, rfl⟩)).1, ?_, hy.2⟩
          rw [show hide (D :: O) (upd H6 D (.lst (vsa ++ [v]))) = hide (D :: O) H6 from hide_upd List.mem_cons_self]
          exact (ha3.ext r6.ext).append (.cons a6 .nil)
theorem noOwn_wiped {vs sl : List Nat} (off : Off sl (wipeE ρ vs) ρ2) (sh : Shd sl ρ2) : NoOwn vs ρ2 := fun i hi s hs => by
  by_cases z : i ∈ sl
  · exact sh i z s hs
  · rw [off i z] at hs
    rw [wipeE_in hi hs]
    rfl
theorem apt_wiped {vs sl : List Nat} {D : Addr} (ap : Apt ρ σ D) (hsl : ∀ i ∈ sl, i ∈ vs) (off : Off sl (wipeE ρ vs) ρ2) (sh : Shd sl ρ2) (hw : L2.wipe σ2 vs = L2.wipe σ vs) : Apt ρ2 σ2 D := fun i s hs ho e => by
  by_cases hi : i ∈ vs
  · rw [noOwn_wiped off sh i hi s hs] at ho; cases ho
  · rw [off i (fun z => hi (hsl i z)), wipeE_get hi] at hs
    rw [← wipe_get (σ := σ2) hi, hw, wipe_get hi] at e
    exact ap i s hs ho e
theorem lc2_imp {own : List (Str × Nat)} {wi wi1 : PWs} {g g1 : GD} {wt wt1 : PWB} {we : PW} {sl sl1 vs1 : List Nat} {Q : VK} (mi : Mono wi) (mg : ∀ d ρ Q Q', (∀ r, Q r → Q' r) → g d ρ Q → g d ρ Q') (kg : ∀ d ρ Q, g d ρ Q → g d ρ fun ρ' => Q ρ' ∧ Off sl ρ ρ' ∧ Shd sl ρ') (mt : Mono wt)
    (mi1 : Mono wi1) (mg1 : ∀ d ρ Q Q', (∀ r, Q r → Q' r) → g1 d ρ Q → g1 d ρ Q') (kg1 : ∀ d ρ Q, g1 d ρ Q → g1 d ρ fun ρ' => Q ρ' ∧ Off sl1 ρ ρ' ∧ Shd sl1 ρ') (mt1 : Mono wt1) (me : Mono we) (hsl : ∀ i ∈ sl, i ∈ own.map (·.2)) (hsl1 : ∀ i ∈ sl1, i ∈ vs1) (hv : ∀ i ∈ vs1, i ∈ own.map (·.2))
    (q : liftF T X.K W (wLc2 wi g wt wi1 g1 wt1 we (own.map (·.2)) vs1) σ H Q) : tLc2 (liftI T X.K W wi) (liftG T X.K sl g) (liftB T X.K W0 wt) (liftI T X.K W0 wi1) (liftG T X.K sl1 g1) (liftB T X.K W0 wt1) (lift T X.K W0 we) (own.map (·.2)) vs1 σ H Q := by
  generalize hvs : own.map (·.2) = vs at hsl hv q ⊢
  obtain ⟨G, ρ, r, no, q⟩ := q
  refine ⟨G, ρ, r, mi _ _ _ _ _ (fun ds hgo J H1 r1 wk D hD => ?_) (fun _ z => z) q⟩
  have nD : D ∉ G.O := fun z => by obtain ⟨o, e, _⟩ := r1.dom D z; rw [hD] at e; cases e
  have nf : ∀ q ∈ G.fl, q.1 ≠ D := fun q hq z => nD (by rw [← z]; exact (r1.fly q hq).1)
  refine ⟨fun i m H2 => ∃ (vsa : List V) (acc : List PyData), m = ds.length - i ∧ Rep T X.K ⟨hide G.O H1, D :: G.O, (D, .lst vsa) :: G.fl⟩ ρ σ H2 ∧ Apt ρ σ D ∧ DaAll X.K (hide (D :: G.O) H2) vsa acc ∧
    goLc2 g wt wi1 g1 wt1 we vs1 (wipeE ρ vs) (ds.drop i) acc (fun acc => ∀ (a : Addr) (vs : List V) (ds : List PyData) (H' : Hp), PyData.list acc = .list ds → Rep T X.K ⟨G.Hb, a :: G.O, G.fl⟩ ρ σ H' → a ∉ G.O → Apt ρ σ a → H' a = some (.lst vs) → DaAll X.K (hide (a :: G.O) H') vs ds → Q (.ref a) H'), ?_, fun i m H2 hW => ?_⟩
  · obtain ⟨r2, na, ap, h1, h2⟩ := r1.newL (vs := []) (ds := []) hD .nil
    exact ⟨_, [], [], rfl, ⟨r2.len, r2.slot, r2.sep, r2.tab, r2.ext |> fun _ => (by rw [show hide (D :: G.O) (upd H1 D (.lst [])) = hide G.O H1 from hide_new hD]; exact ExtN.refl _), r2.dom, fun p hp => by
      rcases List.mem_cons.mp hp with e | hp
      · rw [e]; exact ⟨List.mem_cons_self, h1⟩
      · exact r2.fly p hp, fun b hb => ⟨(r2.dcs b hb).1, (r2.dcs b hb).2.1, fun q hq => by
      rcases List.mem_cons.mp hq with e | hq
      · rw [e]; exact fun z => nD (by rw [show D = b from z]; exact (r1.dcs b hb).1)
      · exact (r2.dcs b hb).2.2 q hq⟩⟩, ap, .nil, by rw [List.drop_zero]; exact hgo⟩
  · obtain ⟨vsa, acc, rfl, r2, ap, ha, hgo⟩ := hW
    have hDv : H2 D = some (.lst vsa) := (r2.fly _ List.mem_cons_self).2
    have r2l := r2.land.1
    have dm : ∀ a ∈ D :: G.O, H2 a ≠ none := fun a ha z => by obtain ⟨o, e, _⟩ := r2.dom a ha; rw [z] at e; cases e
    obtain ⟨wk1, wk2⟩ := wk (D :: G.O) H2 r2.ext dm
    cases hd : ds.drop i with
    | nil =>
      refine .inl ⟨wk2 i (List.drop_eq_nil_iff.mp hd), ?_⟩
      rw [hd] at hgo
      exact hgo D vsa acc H2 rfl (r2l.unbase' _ r1.ext) nD ap hDv ha
    | cons d rest =>
      have hi' : i < ds.length := by
        by_cases z : i < ds.length
        · exact z
        · rw [List.drop_eq_nil_of_le (by omega)] at hd; cases hd
      have hdi : ds[i]? = some d := by
        have := List.drop_eq_getElem_cons hi'
        rw [hd] at this
        rw [List.getElem?_eq_getElem hi', ← (List.cons.inj this).1]
      have hrest : ds.drop (i + 1) = rest := by
        have := List.drop_eq_getElem_cons hi'
        rw [hd] at this
        exact (List.cons.inj this).2.symm
      obtain ⟨jgo, yld⟩ := wk1 i d hdi
      rw [hd] at hgo
      refine .inr ⟨jgo, fun H' => ∃ (vsa : List V) (acc : List PyData), Rep T X.K ⟨hide G.O H1, D :: G.O, (D, .lst vsa) :: G.fl⟩ ρ σ H' ∧ Apt ρ σ D ∧ DaAll X.K (hide (D :: G.O) H') vsa acc ∧
        goLc2 g wt wi1 g1 wt1 we vs1 (wipeE ρ vs) rest acc (fun acc => ∀ (a : Addr) (vs : List V) (ds : List PyData) (H' : Hp), PyData.list acc = .list ds → Rep T X.K ⟨G.Hb, a :: G.O, G.fl⟩ ρ σ H' → a ∉ G.O → Apt ρ σ a → H' a = some (.lst vs) → DaAll X.K (hide (a :: G.O) H') vs ds → Q (.ref a) H'), fun H' hN' => ?_, fun x H3 hy => ?_⟩
      · obtain ⟨vsa, acc, h1, h2, h3, h4⟩ := hN'
        exact ⟨ds.length - (i + 1), by omega, vsa, acc, rfl, h1, h2, h3, by rw [hrest]; exact h4⟩
      · obtain ⟨al, hx⟩ := yld x H3 hy
        have r3 := r2.alloc al
        have e3 : ExtN (hide (D :: G.O) H2) (hide (D :: G.O) H3) := ext_hide fun b o _ h _ => al b o h
        have ha3 := ha.ext e3
        have r3b := r3.rebase
        -- the target
        have hgk := kg _ _ _ hgo
        refine ⟨_, _, d, (r3b.wipe vs), hx, mg _ _ _ _ (fun ρ2 h2 σ2 r4 w4 => ⟨?_, ?_⟩) hgk⟩
        · rw [w4 vs hsl, wipe_wipe]
        · obtain ⟨h2, off, sh⟩ := h2
          have hw4 : L2.wipe σ2 vs = L2.wipe σ vs := by rw [w4 vs hsl, wipe_wipe]
          have offv : Off vs ρ ρ2 := fun j hj => by
            rw [off j (fun z => hj (hsl j z)), wipeE_get hj]
          refine liftB_intro mt r4 (mt _ _ _ _ _ (fun k hk H5 r5 e5 => ?_) (fun _ z => z.elim) h2)
          have back : ∀ {H6 : Hp} {vsb : List V}, Rep T X.K ⟨hide (D :: G.O) H3, D :: G.O, (D, .lst vsb) :: G.fl⟩ ρ2 σ2 H6 → Rep T X.K ⟨hide G.O H1, D :: G.O, (D, .lst vsb) :: G.fl⟩ ρ σ H6 := fun {H6 vsb} r6 => by
            obtain ⟨p1, p2⟩ := r3.put (o' := .lst vsb) ap nf (.inl ⟨_, rfl⟩) (.inl ⟨_, rfl⟩)
            exact p1.unwipe (by rw [p2]; exact r6) no offv hw4
          cases k with
          | false => exact ⟨vsa, acc, back r5, ap, ha3.ext r5.ext, hk⟩
          | true =>
            have hk : wi1 ρ2 (fun es => goLc g1 wt1 we (wipeE ρ2 vs1) es acc _) (fun _ => False) := hk
            have ap2 : Apt ρ2 σ2 D := apt_wiped ap hsl off sh hw4
            have no2 : NoOwn vs1 ρ2 := fun i hi s hs => noOwn_wiped off sh i (hv i hi) s hs
            refine ⟨_, ρ2, r5, mi1 _ _ _ _ _ (fun es hgo1 J1 H4 r6 wk6 => ?_) (fun _ z => z.elim) hk⟩
            exact lcin mg1 kg1 mt1 me hsl1 r6 ap2 nf no2 (ha3.ext r6.ext) wk6 hgo1 fun vsb accb H7 r7 ha7 hq7 => ⟨vsb, accb, back r7, ap, ha7, hq7⟩
theorem df_lc2 {elt tg iter tg1 iter1 : Expr} {ifs ifs1 : List Expr} {scope : Scope} {own : List (Str × Nat)} {wi wi1 : PWs} {g g1 : GD} {wt wt1 : PWB} {we : PW} {sl sl1 vs1 : List Nat} (hc : X.calm = true) (hN : X.N.Nodup) (hi : DI T X W tg iter wi) (ok : BlkOk X.N X.env.scope scope own) (hsl : ∀ i ∈ sl, i ∈ own.map (·.2)) (hsl1 : ∀ i ∈ sl1, i ∈ vs1) (hv : ∀ i ∈ vs1, i ∈ own.map (·.2))
    (hg : ∀ (s : Shared) (H : Hp) (C : Addr) (cl : List (Str × Addr)) (fp : List Addr), DG T (X.blk s H scope (compEnvC scope cl C X.env) fp) sl tg g) (ht : ∀ (s : Shared) (H : Hp) (C : Addr) (cl : List (Str × Addr)) (fp : List Addr), DTs T (X.blk s H scope (compEnvC scope cl C X.env) fp) W0 ifs wt)
    (hi1 : ∀ (s : Shared) (H : Hp) (C : Addr) (cl : List (Str × Addr)) (fp : List Addr), DI T (X.blk s H scope (compEnvC scope cl C X.env) fp) W0 tg1 iter1 wi1)
    (hg1 : ∀ (s : Shared) (H : Hp) (C : Addr) (cl : List (Str × Addr)) (fp : List Addr), DG T (X.blk s H scope (compEnvC scope cl C X.env) fp) sl1 tg1 g1) (ht1 : ∀ (s : Shared) (H : Hp) (C : Addr) (cl : List (Str × Addr)) (fp : List Addr), DTs T (X.blk s H scope (compEnvC scope cl C X.env) fp) W0 ifs1 wt1)
    (he : ∀ (s : Shared) (H : Hp) (C : Addr) (cl : List (Str × Addr)) (fp : List Addr), DE T (X.blk s H scope (compEnvC scope cl C X.env) fp) W0 elt we) (hs : ∀ x, foldedSetIterable iter X.env x = pure x := by intro _; rfl) (hs1 : ∀ env x, foldedSetIterable iter1 env x = pure x := by intro _ _; rfl) :
    DF T X W (.ListComp elt [⟨tg, iter, ifs, 0⟩, ⟨tg1, iter1, ifs1, 0⟩] scope pos) (wLc2 wi g wt wi1 g1 wt1 we (own.map (·.2)) vs1) := by
  have hg0 := hg X.s_0 X.H_0 0 [] []
  have ht0 := ht X.s_0 X.H_0 0 [] []
  have hi10 := hi1 X.s_0 X.H_0 0 [] []
  have hg10 := hg1 X.s_0 X.H_0 0 [] []
  have ht10 := ht1 X.s_0 X.H_0 0 [] []
  have he0 := he X.s_0 X.H_0 0 [] []
  refine ⟨pe_mono (pe_lc2 (wi := liftI T X.K W wi) (g := liftG T X.K sl g) (tt := liftB T X.K W0 wt) (wi1 := liftI T X.K W0 wi1) (g1 := liftG T X.K sl1 g1) (tt1 := liftB T X.K W0 wt1) (te := lift T X.K W0 we) hc hN hi.pi ok hv (fun s H C cl fp => (hg s H C cl fp).pg) (fun s H C cl fp => (ht s H C cl fp).pt) (fun s H C cl fp => (hi1 s H C cl fp).pi) (fun s H C cl fp => (hg1 s H C cl fp).pg) (fun s H C cl fp => (ht1 s H C cl fp).pt) (fun s H C cl fp => (he s H C cl fp).pe) hs hs1) fun σ H Q q => lc2_imp hi.mono hg0.mono hg0.keep ht0.mono hi10.mono hg10.mono hg10.keep ht10.mono he0.mono hsl hsl1 hv q, mono_Lc2 hi.mono hg0.mono ht0.mono hi10.mono hg10.mono ht10.mono he0.mono⟩
end
end PL
set_option Elab.async false
set_option linter.all false
set_option maxRecDepth 100000
set_option maxHeartbeats 2000000
/-! sets of ints and texts whose members are known one by one -/
namespace KSet
open PySem PySem.Spec PyProof.Rows L2
def bk (v : Value) : Key := match v with
  | .int k _ => .inl k
  | .str x _ => .inr x
  | _ => .inl 0
def Ent (P : Program) (w : World) (e : Int × Value) : Prop := (mixKind P w).is (bk e.2) e.2 = true ∧ e.1 = (mixKind P w).hash (bk e.2) ∧ e.2.scannable = true
/-- the set at a; ks its members -/
structure Tb (P : Program) (w : World) (M : Array (Int × Value)) (tb : SetTable) (ks : List Key) : Prop where
  ent : ∀ e ∈ M.toList, Ent P w e
  per : (M.toList.map fun e => bk e.2).Perm ks
  nod : ks.Nodup
  few : M.size < scanBound
  fit : tb.fits M.size = true
  ris : Ris tb.place.toList
  led : w.params.followText "set-order" = true ∨ tb.led = true
def SetQ (P : Program) (w : World) (h : Heap) (a : Addr) (ks : List Key) : Prop := ∃ ob M ep tb, h.get? a = some ob ∧ ob.ExactSet ∧ ob.data = .set M ep tb ∧ Tb P w M tb ks
def addK (ks : List Key) (k : Key) : List Key := if (ks.any fun j => decide (j = k)) = true then ks else ks ++ [k]
theorem addK_in {ks : List Key} {k : Key} (h : k ∈ ks) : addK ks k = ks := if_pos (List.any_eq_true.mpr ⟨k, h, decide_eq_true rfl⟩)
theorem addK_out {ks : List Key} {k : Key} (h : k ∉ ks) : addK ks k = ks ++ [k] := if_neg fun z => by
  obtain ⟨j, hj, e⟩ := List.any_eq_true.mp z
  exact h (by rw [← of_decide_eq_true e]; exact hj)
section
variable {P : Program} {w : World} {A : Around} {E : Value → Shared → Prop} {s : Shared} {a : Addr} {ks : List Key} {k : Key} {x : Value}
theorem bk_is {k : Key} {v : Value} (h : (mixKind P w).is k v = true) : bk v = k := by
  rcases keyIs_shape h with ⟨i, t, rfl, rfl⟩ | ⟨y, t, rfl, rfl⟩ <;> rfl
theorem scan_is {k : Key} {v : Value} (h : (mixKind P w).is k v = true) : v.scannable = true := by
  rcases keyIs_shape h with ⟨i, t, rfl, rfl⟩ | ⟨y, t, rfl, rfl⟩ <;> rfl
theorem Tb.els {M : Array (Int × Value)} {tb : SetTable} (B : Tb P w M tb ks) : ElemsOf (mixKind P w) M.toList := fun e he => by
  obtain ⟨h1, h2, h3⟩ := B.ent e he
  exact ⟨⟨_, h1, h2⟩, h3⟩
theorem Tb.mem {M : Array (Int × Value)} {tb : SetTable} (B : Tb P w M tb ks) (k : Key) : k ∈ ks ↔ ∃ e ∈ M.toList, (mixKind P w).is k e.2 = true := by
  rw [← B.per.mem_iff, List.mem_map]
  refine ⟨fun ⟨e, he, q⟩ => ⟨e, he, by rw [← q]; exact (B.ent e he).1⟩, fun ⟨e, he, q⟩ => ⟨e, he, bk_is q⟩⟩
theorem Tb.size {M : Array (Int × Value)} {tb : SetTable} (B : Tb P w M tb ks) : M.size = ks.length := by
  have := B.per.length_eq
  rwa [List.length_map, Array.length_toList] at this
theorem SetQ.at {h h' : Heap} (R : SetQ P w h a ks) (kp : ∀ o, h.get? a = some o → h'.get? a = some o) : SetQ P w h' a ks := by
  obtain ⟨ob, M, ep, tb, ho, r⟩ := R
  exact ⟨ob, M, ep, tb, kp ob ho, r⟩
theorem put_at {h : Heap} {ob : Obj} {M M' : Array (Int × Value)} {ep : Nat} {tb tb' : SetTable} (ho : h.get? a = some ob) (hd : ob.data = .set M ep tb) : (h.update a (Obj.putSet M' tb')).get? a = some { ob with data := .set M' (ep + 1) tb' } := by
  have := Heap.get?_update_self (Obj.putSet M' tb') ho (by rw [putSet_of M' tb' hd]; rfl)
  rwa [putSet_of M' tb' hd] at this
/-- what is laid is stored, the table grown where it is full -/
theorem lay_tail {f : Bool → Sem Unit} (hf : ∀ (b : Bool) (s1 : Shared) (Z : Unit → Shared → Prop), Z () s1 → wpAny (model P w) A (f b) Z E s1) {ob : Obj} {M : Array (Int × Value)} {ep : Nat} {tb : SetTable} (ho : s.heap.get? a = some ob) (hx : ob.ExactSet) (hd : ob.data = .set M ep tb)
    {M1 : Array (Int × Value)} {t1 : SetTable} (B : Tb P w M1 t1 ks) {dm : Bool} {Z : Option Bool → Shared → Prop} (hZ : ∀ h', Heap.SameBut a s.heap h' → SetQ P w h' a ks → Z (some true) { s with heap := h' }) :
    wpAny (model P w) A (do storeSet a M1 t1; if (!dm && t1.tooFull) = true then (do f (relayAll t1 M1 (SetTable.grown M1.size)).2.2; storeSet a (relayAll t1 M1 (SetTable.grown M1.size)).1 (relayAll t1 M1 (SetTable.grown M1.size)).2.1; pure (some true)) else pure (some true)) Z E s := by
  refine wpAny_bind (wpAny_storeSet_of ho hd ?_ (fits_of_scanBound B.few))
  have o1 := put_at (M' := M1) (tb' := t1) ho hd; have b1 := Heap.SameBut.update s.heap a (Obj.putSet M1 t1)
  split
  · have q1 := relayAll_perm t1 M1 (SetTable.grown M1.size); have q2 := relayAll_fits t1 M1 (SetTable.grown M1.size)
    have q3 := relayAll_ris t1 M1 (SetTable.grown M1.size); have q4 := relayAll_led t1 M1 (SetTable.grown M1.size)
    generalize relayAll t1 M1 (SetTable.grown M1.size) = Y at q1 q2 q3 q4 ⊢
    obtain ⟨M2, t2, gv⟩ := Y
    dsimp only at q1 q2 q3 q4 ⊢
    have hz : M2.size = M1.size := by rw [← Array.length_toList, q1.length_eq, Array.length_toList]
    have few2 : M2.size < scanBound := by rw [hz]; exact B.few
    refine wpAny_bind (hf _ _ _ (wpAny_bind (wpAny_storeSet_of o1 rfl ?_ (fits_of_scanBound few2))))
    have o2 := put_at (M' := M2) (tb' := t2) o1 rfl
    exact wpAny_pure (hZ _ (b1.trans (Heap.SameBut.update _ a _)) ⟨_, M2, _, t2, o2, hx, rfl, ⟨fun e he => B.ent e (q1.mem_iff.mp he), (q1.map fun e => bk e.2).trans B.per, B.nod, few2, q2, q3, B.led.imp _root_.id fun z => by rw [q4]; exact z⟩⟩)
  · exact wpAny_pure (hZ _ b1 ⟨_, M1, _, t1, o1, hx, rfl, B⟩)
theorem add_hashed {Q : Bool → Shared → Prop} (hk : (mixKind P w).is k x = true) (R : SetQ P w s.heap a ks) (room : ks.length + 1 < scanBound) (hQ : ∀ b h', Heap.SameBut a s.heap h' → SetQ P w h' a (addK ks k) → Q b { s with heap := h' }) :
    wpAny (model P w) A (setAddHashed a x ((mixKind P w).hash k)) Q E s := by
  obtain ⟨ob, M, ep, tb, ho, hx, hd, B⟩ := R
  have sc := scan_is hk; have el := B.els
  unfold setAddHashed setAddHashedIn
  refine wpAny_holding (wpAny_bind (wpAny_setState_of ho hd B.fit ?_))
  dsimp only
  rw [byScan_of sc B.few el]
  simp only [↓reduceIte]
  unfold setAddByScan
  refine wpAny_bind (wpAny_bind (wpAny_rule (wpAny_bind (wpAny_setScan_of hk ho hd B.fit el ?_))))
  cases hfi : List.findIdx? (fun e => (mixKind P w).is k e.2) M.toList with
  | some j =>
    dsimp only
    obtain ⟨hj, pj, _⟩ := List.findIdx?_eq_some_iff_getElem.mp hfi
    have hm : k ∈ ks := (B.mem k).2 ⟨M.toList[j], List.getElem_mem hj, pj⟩
    refine wpAny_pure (wpAny_pure (hQ _ s.heap (Heap.SameBut.refl a s.heap) ?_))
    rw [addK_in hm]
    exact ⟨ob, M, ep, tb, ho, hx, hd, B⟩
  | none =>
    dsimp only
    have hm : k ∉ ks := fun z => by
      obtain ⟨e, he, q⟩ := (B.mem k).1 z
      have := List.findIdx?_eq_none_iff.mp hfi e he
      rw [q] at this; cases this
    have gw : ∀ (b : Bool) {s1 : Shared} {Z : Unit → Shared → Prop}, Z () s1 → wpAny (model P w) A (match b with | true => rule "set.scan.the-table-gave-way" | false => pure ()) Z E s1 := fun b s1 Z q => by cases b <;> first | exact wpAny_pure q | exact wpAny_rule q
    have q1 := layNew_perm tb M ((mixKind P w).hash k) x; have q2 := layNew_fits tb M ((mixKind P w).hash k) x
    have q3 := layNew_ris tb M ((mixKind P w).hash k) x B.ris; have q4 := layNew_led tb M ((mixKind P w).hash k) x
    generalize layNew tb M ((mixKind P w).hash k) x = Y at q1 q2 q3 q4 ⊢
    obtain ⟨M1, t1, dm, gv⟩ := Y
    dsimp only at q1 q2 q3 q4 ⊢
    rw [Array.toList_push] at q1
    have pc : M1.toList.Perm (((mixKind P w).hash k, x) :: M.toList) := q1.trans (List.perm_append_singleton _ _)
    have hbx := bk_is hk
    have pk : (M1.toList.map fun e => bk e.2).Perm (ks ++ [k]) := by
      refine (pc.map fun e => bk e.2).trans ?_
      rw [List.map_cons]
      show (bk x :: _).Perm _
      rw [hbx]
      exact (List.Perm.cons k B.per).trans (List.perm_append_singleton k ks).symm
    have nd : (ks ++ [k]).Nodup := by
      rw [List.nodup_append]
      exact ⟨B.nod, by simp, fun y hy z hz e => hm (by rw [List.mem_singleton.mp hz] at e; rw [← e]; exact hy)⟩
    have sz : M1.size = ks.length + 1 := by rw [← Array.length_toList, pc.length_eq, List.length_cons, Array.length_toList, B.size]
    have B1 : ∀ t2 : SetTable, t2.fits M1.size = true → Ris t2.place.toList → t2.led = t1.led → Tb P w M1 t2 (ks ++ [k]) := fun t2 f2 r2 l2 => ⟨fun e he => by
      rcases List.mem_cons.mp (pc.mem_iff.mp he) with z | z
      · rw [z]; exact ⟨by show (mixKind P w).is (bk x) x = true; rw [hbx]; exact hk, by show (mixKind P w).hash k = (mixKind P w).hash (bk x); rw [hbx], sc⟩
      · exact B.ent e z, pk, nd, by rw [sz]; exact room, f2, r2, B.led.imp _root_.id fun z => by rw [l2, q4]; exact z⟩
    have fin : ∀ b h', Heap.SameBut a s.heap h' → SetQ P w h' a (ks ++ [k]) → Q b { s with heap := h' } := fun b h' sb r => hQ b h' sb (by rw [addK_out hm]; exact r)
    refine wpAny_bind (gw _ ?_)
    split
    · refine wpAny_bind ?_
      rw [hashByValue_scannable 8 sc]
      refine wpAny_pure (lay_tail (fun b s1 Z q => by cases b <;> first | exact wpAny_pure q | exact wpAny_rule q) ho hx hd (B1 _ ?_ ?_ ?_) fun h' sb r => ?_)
      · first | (split <;> first | exact q2 | exact SetTable.fits_plain_off q2) | exact q2
      · first | (split <;> exact q3) | exact q3
      · first | (split <;> rfl) | rfl
      · dsimp only; exact wpAny_pure (fin _ h' sb r)
    · refine wpAny_bind (wpAny_pure ?_)
      simp only [↓reduceIte]
      refine lay_tail (fun b s1 Z q => by cases b <;> first | exact wpAny_pure q | exact wpAny_rule q) ho hx hd (B1 _ q2 q3 rfl) fun h' sb r => ?_
      dsimp only
      exact wpAny_pure (fin _ h' sb r)
/-- set.add -/
theorem add_call {Q : Value → Shared → Prop} (hk : (mixKind P w).is k x = true) (R : SetQ P w s.heap a ks) (room : ks.length + 1 < scanBound) (hQ : ∀ h', Heap.SameBut a s.heap h' → SetQ P w h' a (addK ks k) → Q .none { s with heap := h', toks := s.toks + 1 }) :
    wpAny (model P w) A (call (.builtin "set.add") [.ref a, x]) Q E s := by
  obtain ⟨ob, M, ep, tb, ho, hx, hd, B⟩ := _root_.id R
  refine wpAny_call_entry F.slot_set_add ⟨ob, ho, hx.1⟩ F.entry_set_add ?_ (F.args_set_add_2 _ _)
  unfold Builtin.«set.add» Builtin.Frozenset.oneOther
  simp only [List.isEmpty_nil, bind_assoc]
  unfold Builtin.Frozenset.addrOf setAdd
  refine wpAny_bind (wpAny_pure ?_); try dsimp only
  refine wpAny_bind (wpAny_pure ?_); try dsimp only
  refine wpAny_bind (wpAny_holding (wpAny_bind ((mixKind P w).pyHash hk (add_hashed (s := { s with toks := s.toks + 1 }) hk R room fun b h' sb r => ?_))))
  show wpAny _ _ (ret Value.none) _ _ _
  exact wpAny_pure ⟨_, rfl, hQ h' sb r⟩
theorem set_fresh {h : Heap} : SetQ P w (h.push { cls := .type "set", dict := none, data := .set #[] 0 (.fresh 0 0 (!w.params.followText "set-order")) }) h.objs.size [] :=
  ⟨_, #[], 0, _, Heap.get?_push_size _ rfl, ⟨rfl, rfl, rfl⟩, rfl, ⟨fun e he => by simp at he, .nil, List.nodup_nil, by decide, by rfl, List.Pairwise.nil, by
    show _ ∨ (!w.params.followText "set-order") = true
    cases w.params.followText "set-order"
    · exact .inr rfl
    · exact .inl rfl⟩⟩
end
def setO (P : Program) (w : World) (a : Addr) (ks : List Key) : HO := .ext fun h => SetQ P w h a ks
theorem setO_new {P : Program} {w : World} {H : Hp} {h : Heap} {a : Addr} {ks : List Key} (R : SetQ P w h a ks) : ObjOk P w H h a (setO P w a ks) := by
  have ⟨o, _, _, _, ho, _⟩ := R
  exact ⟨R, ⟨o, ho⟩, fun h1 h2 p k => SetQ.at p k⟩
variable {X : Cx}
theorem setO_get {pins : List (Addr × Obj)} {σ : L2.St} {H : Hp} {s : Shared} {a : Addr} {ks : List Key} (I : Inv X pins σ H s) (ha : H a = some (setO X.prog X.w a ks)) : SetQ X.prog X.w s.heap a ks := (I.hok a _ ha).1
theorem addO_ok {pins : List (Addr × Obj)} {σ : L2.St} {H : Hp} {s : Shared} {E : Value → Shared → Prop} {D : Addr} {ks : List Key} {k : Key} {u : Value} {Q : Value → Shared → Prop} (I : Inv X pins σ H s) (hD : H D = some (setO X.prog X.w D ks)) (r : RelV (kV k) u) (room : ks.length + 1 < scanBound)
    (h : ∀ s', Inv X pins σ (upd H D (setO X.prog X.w D (addK ks k))) s' → Q .none s') : wpAny (model X.prog X.w) X.A (call (.builtin "set.add") [.ref D, u]) Q E s := by
  refine add_call (kV_is r) (setO_get I hD) room fun h' sb new => h _ (I.write (e := D) (t' := s.toks + 1) (by rw [hD]; trivial) (.inl rfl) (fun b u hb hu => (sb.2 b hb).trans hu) ?_ (setO_new new))
  obtain ⟨o, _, _, _, ho, _⟩ := new
  exact ⟨o, ho⟩
end KSet
set_option Elab.async false
set_option linter.all false
set_option maxRecDepth 100000
set_option maxHeartbeats 2000000
/-! {elt for tg in iter if ..}, the elements ints or texts -/
namespace KSet
open PySem PySem.Spec PyProof.Rows L2
section
variable {X : Cx}
def tSq (P : Program) (w : World) (wi : TI) (g : TG) (tt : TT) (te : TE) (vs : List Nat) : TE := fun σ H Q => wi σ H fun J H1 => ∀ D, H1 D = none → ∃ W : Nat → Nat → Hp → Prop, (∃ m, W 0 m (upd H1 D (setO P w D []))) ∧ ∀ i m H, W i m H →
  (J.stop i H ∧ Q (.ref D) H) ∨ (J.go i H ∧ ∃ Nx : Hp → Prop, (∀ H', Nx H' → ∃ m', m' < m ∧ W (i + 1) m' H') ∧ ∀ x H', J.yld i H x H' → g x (wipe σ vs) H' fun σ2 H2 => wipe σ2 vs = wipe σ vs ∧ tt σ2 H2 fun b H3 =>
    if b = true then te σ2 H3 fun y H4 => ∃ (k : Key) (ks : List Key), y = kV k ∧ H4 D = some (setO P w D ks) ∧ ks.length + 1 < scanBound ∧ Nx (upd H4 D (setO P w D (addK ks k))) else Nx H3)
theorem sq_core {pins : List (Addr × Obj)} {s : Shared} {σ : L2.St} {H : Hp} {Q : VK} {elt tg iter : Expr} {ifs : List Expr} {scope : Scope} {own : List (PySem.Str × Nat)} {pos ppos : Pos} {wi : TI} {g : TG} {tt : TT} {te : TE} {use : Option (Value → Sem Unit)} {Z : Value → Shared → Prop}
    (hc : X.calm = true) (hN : X.N.Nodup) (I : Inv X pins σ H s) (hi : PI X tg iter wi) (ok : BlkOk X.N X.env.scope scope own)
    (hg : ∀ (s : Shared) (H : Hp) (C : Addr) (cl : List (PySem.Str × Addr)) (fp : List Addr), PG (X.blk s H scope (compEnvC scope cl C X.env) fp) tg g) (ht : ∀ (s : Shared) (H : Hp) (C : Addr) (cl : List (PySem.Str × Addr)) (fp : List Addr), PTs (X.blk s H scope (compEnvC scope cl C X.env) fp) ifs tt)
    (he : ∀ (s : Shared) (H : Hp) (C : Addr) (cl : List (PySem.Str × Addr)) (fp : List Addr), PE (X.blk s H scope (compEnvC scope cl C X.env) fp) elt te) (hs : ∀ x, foldedSetIterable iter X.env x = pure x) (h : tSq X.prog X.w wi g tt te (own.map (·.2)) σ H Q)
    (hZ : ∀ D C s' m H', Inv X pins σ H' s' → Q (.ref D) H' → s'.heap.Ns C m → FpOk X pins H' C → compPost (model X.prog X.w) X.A X.xe use Z (.ref D) C (.ok .next) s') :
    wpAny (model X.prog X.w) X.A (comprehension (.SetComp elt [⟨tg, iter, ifs, 0⟩] scope pos) scope X.env ppos (newSet (.type "set")) false (eval iter X.env) use) Z X.xe s := by
  have frees : ∀ y ∈ scope.names, y.2 = .free → ∃ c, X.env.cells.lookup y.1 = some c := fun y hy e => (ok.free y hy e).elim (fun k => I.ok.has _ (.inl k)) fun k => I.ok.has _ (.inr k)
  refine wpAny_comprehension_free (use := use) rfl hs (closure_ok frees) ok.kind (fun y hy e => by rw [ok.uniq y hy, e]) (thn (hi.run pins s σ H _ I h) fun xv s1 hx => thn hx fun itv s2 ⟨it, fp, tn, J, Ha, e, Ia, TT, sta, fa, q⟩ => ?_)
  subst e
  refine PpSet.newSet_ok (newEnv_comp ?_)
  generalize eD : s2.heap.objs.size = D
  have nD : Ha D = none := Ia.hok.fresh (Nat.le_of_eq eD)
  obtain ⟨W, ⟨m0, w0⟩, turn⟩ := q D nD
  generalize eb : ({ s2 with heap := s2.heap.push { cls := .type "set", dict := none, data := .set #[] 0 (.fresh 0 0 (!X.w.params.followText "set-order")) } } : Shared) = sb
  have Ib : Inv X pins σ (upd Ha D (setO X.prog X.w D [])) sb := by
    rw [← eb]
    refine Ia.laid (t' := s2.toks) (fun b o e => Heap.get?_push_of_some _ e) (Nat.le_of_eq eD) (by rw [← eD]; exact setO_new set_fresh)
  have hb : sb.heap = s2.heap.push { cls := .type "set", dict := none, data := .set #[] 0 (.fresh 0 0 (!X.w.params.followText "set-order")) } := by rw [← eb]
  have small : ∀ b ∈ fp, b < s2.heap.objs.size := fun b hb => by obtain ⟨o, e, _⟩ := TT.obj _ _ sta b hb; exact Heap.lt_size e
  have fb : ∀ b ∈ fp, FpOk X pins (upd Ha D (setO X.prog X.w D [])) b ∧ b < sb.heap.objs.size := fun b hbm => by
    have lt := small b hbm
    refine ⟨⟨?_, (fa b hbm).2⟩, by rw [hb, Heap.size_push]; exact Nat.lt_succ_of_lt lt⟩
    rw [upd_ne (by rw [← eD]; exact Nat.ne_of_lt lt)]; exact (fa b hbm).1
  have stb : tn 0 sb.heap := TT.keep _ _ _ sta fun b _ o e => by rw [hb]; exact Heap.get?_push_of_some _ e
  have Ic := block_start Ib ok hN fb
  generalize ecl : cellsFrom (sb.heap.objs.size + 1) scope.names (cloFrom X.env.cells scope.names []) = cl at Ic
  have pg := hg sb (upd Ha D (setO X.prog X.w D [])) sb.heap.objs.size cl fp; have pt := ht sb (upd Ha D (setO X.prog X.w D [])) sb.heap.objs.size cl fp; have pe := he sb (upd Ha D (setO X.prog X.w D [])) sb.heap.objs.size cl fp
  show codeAny _ _ (.compStart (.SetComp elt [⟨tg, iter, ifs, 0⟩] scope pos) 0 (.ref it) (.ref D) (compEnvC scope cl sb.heap.objs.size X.env)) (compPost (model X.prog X.w) X.A X.xe use Z (.ref D) sb.heap.objs.size) { sb with heap := pushCells (sb.heap.push { cls := .type "dict", data := .dict #[] }) scope.names }
  have noH : ∀ b ∈ fp, (upd Ha D (setO X.prog X.w D [])) b = none := fun b hbm => (fb b hbm).1.1
  generalize ece : compEnvC scope cl sb.heap.objs.size X.env = ce at Ic pg pt pe ⊢
  have cL : ce.locals = sb.heap.objs.size := by subst ece; rfl
  generalize eHb : upd Ha D (setO X.prog X.w D []) = Hb at Ib Ic pg pt pe w0 noH fb
  generalize esc : ({ sb with heap := pushCells (sb.heap.push { cls := .type "dict", data := .dict #[] }) scope.names } : Shared) = sc at Ic ⊢
  have stc : tn 0 sc.heap := TT.keep _ _ _ stb fun b _ o e => by rw [← esc]; exact pushCells_keeps _ _ _ _ (Heap.get?_push_of_some _ e)
  have still : ∀ {σ' : L2.St} {H' : Hp} {s' : Shared}, Inv (X.blk sb Hb scope ce fp) [] σ' H' s' → (∀ b ∈ fp, H' b = none) → ∀ b ∈ fp, FpOk (X.blk sb Hb scope ce fp) [] H' b := fun {σ' H' s'} I' hn b hbm => ⟨hn b hbm, (I'.ok.exf b hbm).1, I'.ok.exfs b hbm, .inl hbm, fun x c e => (I'.ok.exf b hbm).2 x c e, fun p hp => absurd (show p ∈ ([] : List (Addr × Obj)) ++ [] from hp) (by simp)⟩
  have loop : codeAny (model X.prog X.w) X.A (.compLoop (.SetComp elt [⟨tg, iter, ifs, 0⟩] scope pos) 0 (.ref it) (.ref D) ce) (compPost (model X.prog X.w) X.A X.xe use Z (.ref D) sb.heap.objs.size) sc := by
    refine PpSet.compLoopS_any (fun n s' => ∃ i H', Inv (X.blk sb Hb scope ce fp) [] (wipe σ (own.map (·.2))) H' s' ∧ tn i s'.heap ∧ (∀ b ∈ fp, H' b = none) ∧ W i n H') ?_ m0 ⟨0, Hb, Ic, stc, noH, w0⟩
    rintro n sd ⟨i, Hd, Id, std, nd, wd⟩
    rcases turn i n Hd wd with ⟨stop, qq⟩ | ⟨go, Nx, hNx, step⟩
    · refine thnF (TT.done (X.blk sb Hb scope ce fp) rfl rfl rfl hc i [] sd _ Hd (fun _ _ => False) Id (still Id nd) std stop) fun r s6 ⟨hr, I6⟩ => ?_
      subst hr
      have I7 : Inv X pins σ Hd s6 := Ib.call' (ch := fp) I6.os I6.base I6.hok I6.bare fun b hbm => ⟨(fb b hbm).1.2.2.2.1, (fb b hbm).1.2.1, (fb b hbm).1.2.2.2.2.1, (fb b hbm).1.2.2.2.2.2⟩
      have nC : Hd sb.heap.objs.size = none := by have z : Hd ce.locals = none := I6.free; rwa [cL] at z
      obtain ⟨m, hn, _⟩ := I6.loc
      have hn : s6.heap.Ns ce.locals m := hn
      rw [cL] at hn
      exact hZ D sb.heap.objs.size s6 m Hd I7 qq hn (Ib.fpOk (Nat.le_refl _) nC)
    · refine thnF (TT.item (X.blk sb Hb scope ce fp) rfl rfl rfl hc i [] sd _ Hd (fun _ _ => False) Id (still Id nd) std go) fun r s6 ⟨u, hr, h6⟩ => ?_
      subst hr
      refine thnF h6 fun _ s7 ⟨x, H7, I7, r7, y7, st7, n7⟩ => ?_
      refine thnF (pg.run _ s7 _ H7 x u _ (I7.pinned (still I7 n7) (TT.obj _ _ st7)) r7 (step x H7 y7)) fun _ s8 ⟨σ8, H8, I8, hw8, q8⟩ => thnF (pt.run _ s8 σ8 H8 _ I8 q8) fun b s9 ⟨H9, I9, q9⟩ => ?_
      have fin : ∀ {s' : Shared} {H' : Hp}, Inv (X.blk sb Hb scope ce fp) ([] ++ pinsAt fp s7.heap) σ8 H' s' → Nx H' → ∃ m, m < n ∧ ∃ i H', Inv (X.blk sb Hb scope ce fp) [] (wipe σ (own.map (·.2))) H' s' ∧ tn i s'.heap ∧ (∀ b ∈ fp, H' b = none) ∧ W i m H' := fun {s' H'} I' nx => by
        obtain ⟨m', hm, w'⟩ := hNx H' nx
        have pin : ∀ b ∈ fp, ∀ o, s7.heap.get? b = some o → s'.heap.get? b = some o ∧ H' b = none := fun b hbm o e => let z := I'.pin (b, o) (List.mem_append_right _ (List.mem_append_right _ (mem_pinsAt hbm e))); ⟨z.1, z.2.1⟩
        refine ⟨m', hm, i + 1, H', (I'.unpinned (pins := [])).weak (by rw [← hw8, wipe_length]) (fun j v e => by rw [← hw8] at e; exact (wipe_some e).1), TT.keep _ _ _ st7 fun b hbm o e => (pin b hbm o e).1, fun b hbm => ?_, w'⟩
        obtain ⟨o, e, _⟩ := TT.obj _ _ st7 b hbm
        exact (pin b hbm o e).2
      cases b with
      | false => simp only [Bool.false_eq_true, if_false] at q9 ⊢; exact fin I9 q9
      | true =>
        simp only [if_true] at q9 ⊢
        refine thnF (pe.run _ s9 σ8 H9 _ I9 q9) fun z s10 ⟨yv, H10, I10, r10, k, ks, ey, hD10, room, nx⟩ => ?_
        subst ey
        exact addO_ok (X := X.blk sb Hb scope ce fp) I10 hD10 r10 room fun s11 I11 => fin I11 nx
  exact PpSet.codeAny_compStart_set loop (TT.self X.A 0 _ _ _ stc loop)
theorem pe_sq {elt tg iter : Expr} {ifs : List Expr} {scope : Scope} {own : List (PySem.Str × Nat)} {pos : Pos} {wi : TI} {g : TG} {tt : TT} {te : TE} (hc : X.calm = true) (hN : X.N.Nodup) (hi : PI X tg iter wi) (ok : BlkOk X.N X.env.scope scope own)
    (hg : ∀ (s : Shared) (H : Hp) (C : Addr) (cl : List (PySem.Str × Addr)) (fp : List Addr), PG (X.blk s H scope (compEnvC scope cl C X.env) fp) tg g) (ht : ∀ (s : Shared) (H : Hp) (C : Addr) (cl : List (PySem.Str × Addr)) (fp : List Addr), PTs (X.blk s H scope (compEnvC scope cl C X.env) fp) ifs tt)
    (he : ∀ (s : Shared) (H : Hp) (C : Addr) (cl : List (PySem.Str × Addr)) (fp : List Addr), PE (X.blk s H scope (compEnvC scope cl C X.env) fp) elt te) (hs : ∀ x, foldedSetIterable iter X.env x = pure x := by intro _; rfl) :
    PE X (.SetComp elt [⟨tg, iter, ifs, 0⟩] scope pos) (tSq X.prog X.w wi g tt te (own.map (·.2))) := ⟨fun pins s σ H Q I h => by
  rw [PpSet.eval_SetComp]
  refine sq_core hc hN I hi ok hg ht he hs h fun D C s' m H' I' q hn ⟨f0, f1, f2, f3, f4, f5⟩ => ⟨m, hn, fun h'' sb => ⟨.ref D, H', I'.turned (t' := s'.toks) (fun b o hb e => (sb.2 b hb).trans e) f0 f1 f3 f4 f5, rfl, q⟩⟩⟩
end
end KSet
set_option Elab.async false
set_option linter.all false
set_option maxRecDepth 100000
set_option maxHeartbeats 2000000
namespace PL
open PySem PySem.Spec PyProof.Rows L2 KSet
open LamX (ExtN Tabs TabS)
theorem heap_of : ∀ n : Nat, ∃ h : Heap, h.objs.size = n
  | 0 => ⟨{ objs := #[] }, rfl⟩
  | n + 1 => by
    obtain ⟨h, e⟩ := heap_of n
    exact ⟨h.push { cls := .none, data := .fields #[] }, by rw [Heap.size_push, e]⟩
theorem setO_code {P : Program} {w : World} {a c : Addr} {ks : List Key} {q : Str} : setO P w a ks ≠ LamX.CodeO c q := fun z => by
  have e : (fun h => SetQ P w h a ks) = fun h => ∃ (oc : Obj) (vs : Array Value) (t : Tok), h.get? c = some oc ∧ oc.data = .fields vs ∧ vs[1]? = some (.str q t) := HO.ext.inj z
  have key : ∀ n : Nat, ∃ g : Heap, g.objs.size = n ∧ ∀ b ob, g.get? b = some ob → ∃ vs, ob.data = .fields vs := fun n => by
    induction n with
    | zero => exact ⟨{ objs := #[] }, rfl, fun b ob e => absurd (Heap.lt_size e) (Nat.not_lt_zero _)⟩
    | succ n ih =>
      obtain ⟨g, e1, e2⟩ := ih
      refine ⟨g.push { cls := .none, data := .fields #[] }, by rw [Heap.size_push, e1], fun b ob e => ?_⟩
      by_cases hb : b = g.objs.size
      · subst hb
        rw [Heap.get?_push_size _ rfl] at e
        cases e
        exact ⟨_, rfl⟩
      · exact e2 b ob (by rwa [Heap.get?_push_ne g b _ hb] at e)
  obtain ⟨g, e1, e2⟩ := key c
  have g1 : (g.push { cls := .none, data := .fields #[.none, .str q 0] }).get? c = some { cls := .none, data := .fields #[.none, .str q 0] } := by rw [← e1]; exact Heap.get?_push_size _ rfl
  have h4 : ∃ (oc : Obj) (vs : Array Value) (t : Tok), (g.push { cls := .none, data := .fields #[.none, .str q 0] }).get? c = some oc ∧ oc.data = .fields vs ∧ vs[1]? = some (.str q t) := ⟨_, _, 0, g1, rfl, rfl⟩
  rw [← congrFun e (g.push { cls := .none, data := .fields #[.none, .str q 0] })] at h4
  obtain ⟨ob, M, ep, tb, ho, _, hd, _⟩ := h4
  by_cases ha : a = g.objs.size
  · subst ha
    rw [Heap.get?_push_size _ rfl] at ho
    cases ho
    cases hd
  · obtain ⟨vs, e5⟩ := e2 a ob (by rwa [Heap.get?_push_ne g a _ ha] at ho)
    rw [hd] at e5
    cases e5
section
variable {T : Tb} {X : Cx} {W : WX} {pos p : Pos} {e a b c : Expr} {K : PySem.W.Frag} {G : Gh} {ρ ρ2 : En} {σ σ2 : L2.St} {H H' : Hp}
theorem TOk.updS {P : Program} {w : World} {D x : Addr} {ks : List Key} {o' : HO} (t : TOk T H) (hD : H D = some (setO P w x ks)) : TOk T (L2.upd H D o') := by
  refine ⟨fun Q hQ => ?_, fun p hp => ?_⟩
  · obtain ⟨ps, h1, h2⟩ := t.g Q hQ
    exact ⟨ps, by rw [upd_ne fun z => by rw [z, hD] at h1; cases h1]; exact h1, h2⟩
  · obtain ⟨ps, h1, h2, h3⟩ := t.l p hp
    refine ⟨ps, by rw [upd_ne fun z => by rw [z, hD] at h1; cases h1]; exact h1, h2, fun pos cv hcv => ?_⟩
    obtain ⟨c', e, h4⟩ := h3 pos cv hcv
    exact ⟨c', e, by rw [upd_ne fun z => by rw [z, hD] at h4; exact setO_code (Option.some.inj h4)]; exact h4⟩
/-- a set of ours in flight is written -/
theorem Rep.putS {P : Program} {w : World} {Hb : Hp} {O : List Addr} {fl : List (Addr × HO)} {D x : Addr} {ks ks' : List Key} (r : Rep T K ⟨Hb, O, (D, setO P w x ks) :: fl⟩ ρ σ H) (ap : Apt ρ σ D) (hn : ∀ q ∈ fl, q.1 ≠ D) :
    Rep T K ⟨Hb, O, (D, setO P w x ks') :: fl⟩ ρ σ (upd H D (setO P w x ks')) ∧ hide O (upd H D (setO P w x ks')) = hide O H := by
  obtain ⟨hO, hD⟩ := r.fly _ List.mem_cons_self
  have eh : hide O (upd H D (setO P w x ks')) = hide O H := hide_upd hO
  have off : ∀ (j : Nat) (s : Sl) (b : Addr), ρ[j]? = some s → s.owned = true → σ[j]? = some (some (.ref b)) → b ≠ D := fun j s b hj hs e z => by
    rw [z] at e; exact ap j s hj hs e
  refine ⟨⟨r.len, fun j s hj => ?_, r.sep, r.tab.updS hD, by rw [eh]; exact r.ext, fun b hb => ?_, fun q hq => ?_, fun b hb => ?_⟩, eh⟩
  · obtain ⟨u, h1, h2⟩ := r.slot j s hj
    refine ⟨u, h1, ?_⟩
    cases s with
    | un => trivial
    | sh d => obtain ⟨x, h3, h4⟩ := h2; exact ⟨x, h3, by rw [eh]; exact h4⟩
    | ol ds => obtain ⟨b, us, h3, h4, h5, h6⟩ := h2; subst h3; exact ⟨b, us, rfl, h4, by rw [upd_ne (off j _ b hj rfl h1)]; exact h5, by rw [eh]; exact h6⟩
    | ok ds => obtain ⟨b, us, h3, h4, h5, h6, h7⟩ := h2; subst h3; exact ⟨b, us, rfl, h4, by rw [upd_ne (off j _ b hj rfl h1)]; exact h5, h6, by rw [eh]; exact h7⟩
    | ot ds => obtain ⟨b, us, h3, h4, h5, h6, h7⟩ := h2; subst h3; exact ⟨b, us, rfl, h4, by rw [upd_ne (off j _ b hj rfl h1)]; exact h5, h6, by rw [eh]; exact h7⟩
    | dice => exact h2
    | scr ns => obtain ⟨b, h3, h4⟩ := h2; exact ⟨b, h3, by rw [eh]; exact h4⟩
  · by_cases z : b = D
    · rw [z, upd_same]; exact ⟨_, rfl, fun ps e => by cases e⟩
    · rw [upd_ne z]; exact r.dom b hb
  · rcases List.mem_cons.mp hq with z | z
    · rw [z]; exact ⟨hO, upd_same⟩
    · rw [upd_ne (hn q z)]; exact r.fly q (List.mem_cons_of_mem _ z)
  · obtain ⟨h1, h2, h3⟩ := r.dcs b hb
    have nb : b ≠ D := fun z => h3 _ List.mem_cons_self z.symm
    refine ⟨h1, by rw [upd_ne nb]; exact h2, fun q hq => ?_⟩
    rcases List.mem_cons.mp hq with z | z
    · rw [z]; exact fun z => nb z.symm
    · exact h3 q (List.mem_cons_of_mem _ z)
/-! ### what a set comprehension gathers -/
def goSc (g : GD) (wt : PWB) (we : PW) (ρw : En) : List PyData → List Key → (List Key → Prop) → Prop
  | [], ks, Q => Q ks
  | d :: ds, ks, Q => g d ρw fun ρ2 => wt ρ2 (fun b => if b = true then we ρ2 (fun y => ∃ k, keyOf y = some k ∧ ks.length + 1 < 4096 ∧ goSc g wt we ρw ds (addK ks k) Q) (fun _ => False) else goSc g wt we ρw ds ks Q) (fun _ => False)
theorem goSc_mono {g : GD} {wt : PWB} {we : PW} {ρw : En} (mg : ∀ d ρ Q Q', (∀ r, Q r → Q' r) → g d ρ Q → g d ρ Q') (mt : Mono wt) (me : Mono we) {Q Q' : List Key → Prop} (hq : ∀ d, Q d → Q' d) : ∀ (ds : List PyData) (ks : List Key), goSc g wt we ρw ds ks Q → goSc g wt we ρw ds ks Q'
  | [], ks, h => hq _ h
  | d :: ds, ks, h => mg _ _ _ _ (fun ρ2 h2 => mt _ _ _ _ _ (fun k hk => by
      cases k with
      | true => exact me _ _ _ _ _ (fun y ⟨k, h1, h2, h3⟩ => ⟨k, h1, h2, goSc_mono mg mt me hq ds _ h3⟩) (fun _ z => z) hk
      | false => exact goSc_mono mg mt me hq ds _ hk) (fun _ z => z) h2) h
abbrev PWk := En → (List Key → Prop) → (Exn → Prop) → Prop
def wSc (wi : PWs) (g : GD) (wt : PWB) (we : PW) (vs : List Nat) : PWk := fun ρ Q E => NoOwn vs ρ ∧ wi ρ (fun ds => goSc g wt we (wipeE ρ vs) ds [] Q) E
theorem mono_Sc {wi : PWs} {g : GD} {wt : PWB} {we : PW} {vs : List Nat} (mi : Mono wi) (mg : ∀ d ρ Q Q', (∀ r, Q r → Q' r) → g d ρ Q → g d ρ Q') (mt : Mono wt) (me : Mono we) : Mono (wSc wi g wt we vs) := fun ρ Q Q' E E' hq he h =>
  ⟨h.1, mi _ _ _ _ _ (fun ds hd => goSc_mono mg mt me (fun ks hk => hq _ hk) ds [] hd) he h.2⟩
/-- a new set, ours, in flight -/
def liftQ (T : Tb) (P : Program) (w : World) (K : PySem.W.Frag) (W : WX) (wq : PWk) : TE := fun σ H Q => ∃ G ρ, Rep T K G ρ σ H ∧ wq ρ (fun ks => ∀ a H', Rep T K ⟨G.Hb, a :: G.O, G.fl⟩ ρ σ H' → a ∉ G.O → Apt ρ σ a → H' a = some (setO P w a ks) → Q (.ref a) H') (exOut T K W G ρ σ)
structure DQ (T : Tb) (X : Cx) (W : WX) (e : Expr) (w : PWk) : Prop where
  pe : PE X e (liftQ T X.prog X.w X.K W w)
  mono : Mono w
theorem sc_imp {own : List (Str × Nat)} {wi : PWs} {g : GD} {wt : PWB} {we : PW} {sl : List Nat} {Q : VK} (mi : Mono wi) (mg : ∀ d ρ Q Q', (∀ r, Q r → Q' r) → g d ρ Q → g d ρ Q') (kg : ∀ d ρ Q, g d ρ Q → g d ρ fun ρ' => Q ρ' ∧ Off sl ρ ρ' ∧ Shd sl ρ') (mt : Mono wt) (me : Mono we) (hsl : ∀ i ∈ sl, i ∈ own.map (·.2))
    (q : liftQ T X.prog X.w X.K W (wSc wi g wt we (own.map (·.2))) σ H Q) : tSq X.prog X.w (liftI T X.K W wi) (liftG T X.K sl g) (liftB T X.K W0 wt) (lift T X.K W0 we) (own.map (·.2)) σ H Q := by
  generalize hvs : own.map (·.2) = vs at hsl q ⊢
  obtain ⟨G, ρ, r, no, q⟩ := q
  refine ⟨G, ρ, r, mi _ _ _ _ _ (fun ds hgo J H1 r1 wk D hD => ?_) (fun _ z => z) q⟩
  have nD : D ∉ G.O := fun z => by obtain ⟨o, e, _⟩ := r1.dom D z; rw [hD] at e; cases e
  have nf : ∀ q ∈ G.fl, q.1 ≠ D := fun q hq z => nD (by rw [← z]; exact (r1.fly q hq).1)
  refine ⟨fun i m H2 => ∃ ks : List Key, m = ds.length - i ∧ Rep T X.K ⟨hide G.O H1, D :: G.O, (D, setO X.prog X.w D ks) :: G.fl⟩ ρ σ H2 ∧ Apt ρ σ D ∧ goSc g wt we (wipeE ρ vs) (ds.drop i) ks (fun ks => ∀ a H', Rep T X.K ⟨G.Hb, a :: G.O, G.fl⟩ ρ σ H' → a ∉ G.O → Apt ρ σ a → H' a = some (setO X.prog X.w a ks) → Q (.ref a) H'), ?_, fun i m H2 hW => ?_⟩
  · obtain ⟨r2, eh, na, ap⟩ := r1.own (o := setO X.prog X.w D []) hD (fun ps z => by cases z)
    exact ⟨_, [], rfl, ⟨r2.len, r2.slot, r2.sep, r2.tab, r2.ext |> fun _ => (by rw [show hide (D :: G.O) (upd H1 D (setO X.prog X.w D [])) = hide G.O H1 from hide_new hD]; exact ExtN.refl _), r2.dom, fun p hp => by
      rcases List.mem_cons.mp hp with e | hp
      · rw [e]; exact ⟨List.mem_cons_self, upd_same⟩
      · exact r2.fly p hp, fun b hb => ⟨(r2.dcs b hb).1, (r2.dcs b hb).2.1, fun q hq => by
      rcases List.mem_cons.mp hq with e | hq
      · rw [e]; exact fun z => nD (by rw [show D = b from z]; exact (r1.dcs b hb).1)
      · exact (r2.dcs b hb).2.2 q hq⟩⟩, ap, by rw [List.drop_zero]; exact hgo⟩
  · obtain ⟨ks, rfl, r2, ap, hgo⟩ := hW
    have hDv := (r2.fly _ List.mem_cons_self).2
    have dm : ∀ a ∈ D :: G.O, H2 a ≠ none := fun a ha z => by obtain ⟨o, e, _⟩ := r2.dom a ha; rw [z] at e; cases e
    obtain ⟨wk1, wk2⟩ := wk (D :: G.O) H2 r2.ext dm
    cases hd : ds.drop i with
    | nil =>
      refine .inl ⟨wk2 i (List.drop_eq_nil_iff.mp hd), ?_⟩
      rw [hd] at hgo
      exact hgo D H2 ((r2.land.1).unbase' _ r1.ext) nD ap hDv
    | cons d rest =>
      have hi' : i < ds.length := by
        by_cases z : i < ds.length
        · exact z
        · rw [List.drop_eq_nil_of_le (by omega)] at hd; cases hd
      have hdi : ds[i]? = some d := by
        have := List.drop_eq_getElem_cons hi'
        rw [hd] at this
        rw [List.getElem?_eq_getElem hi', ← (List.cons.inj this).1]
      have hrest : ds.drop (i + 1) = rest := by
        have := List.drop_eq_getElem_cons hi'
        rw [hd] at this
        exact (List.cons.inj this).2.symm
      obtain ⟨jgo, yld⟩ := wk1 i d hdi
      rw [hd] at hgo
      refine .inr ⟨jgo, fun H' => ∃ ks : List Key, Rep T X.K ⟨hide G.O H1, D :: G.O, (D, setO X.prog X.w D ks) :: G.fl⟩ ρ σ H' ∧ Apt ρ σ D ∧ goSc g wt we (wipeE ρ vs) rest ks (fun ks => ∀ a H', Rep T X.K ⟨G.Hb, a :: G.O, G.fl⟩ ρ σ H' → a ∉ G.O → Apt ρ σ a → H' a = some (setO X.prog X.w a ks) → Q (.ref a) H'), fun H' hN' => ?_, fun x H3 hy => ?_⟩
      · obtain ⟨ks, h1, h2, h3⟩ := hN'
        exact ⟨ds.length - (i + 1), by omega, ks, rfl, h1, h2, by rw [hrest]; exact h3⟩
      · obtain ⟨al, hx⟩ := yld x H3 hy
        have r3 := r2.alloc al
        refine ⟨_, _, d, (r3.rebase.wipe vs), hx, mg _ _ _ _ (fun ρ2 h2 σ2 r4 w4 => ⟨by rw [w4 vs hsl, wipe_wipe], ?_⟩) (kg _ _ _ hgo)⟩
        obtain ⟨h2, off, _⟩ := h2
        have hw4 : L2.wipe σ2 vs = L2.wipe σ vs := by rw [w4 vs hsl, wipe_wipe]
        have offv : Off vs ρ ρ2 := fun j hj => by
          rw [off j (fun z => hj (hsl j z)), wipeE_get hj]
        refine liftB_intro mt r4 (mt _ _ _ _ _ (fun k hk H5 r5 e5 => ?_) (fun _ z => z.elim) h2)
        have back : ∀ {H6 : Hp}, Rep T X.K ⟨hide (D :: G.O) H3, D :: G.O, (D, setO X.prog X.w D ks) :: G.fl⟩ ρ2 σ2 H6 → Rep T X.K ⟨hide G.O H1, D :: G.O, (D, setO X.prog X.w D ks) :: G.fl⟩ ρ σ H6 := fun {H6} r6 => r3.unwipe r6 no offv hw4
        cases k with
        | false => exact ⟨ks, back r5, ap, hk⟩
        | true =>
          have hk : we ρ2 (fun y => ∃ k, keyOf y = some k ∧ ks.length + 1 < 4096 ∧ goSc g wt we (wipeE ρ vs) rest (addK ks k) _) (fun _ => False) := hk
          refine lift_intro me r5 (me _ _ _ _ _ (fun y hy v H6 r6 e6 a6 => ?_) (fun _ z => z.elim) hk)
          obtain ⟨k, hk1, hk2, hk3⟩ := hy
          have r7 := back r6
          exact ⟨k, ks, keyOf_da a6 hk1, (r6.fly _ List.mem_cons_self).2, hk2, addK ks k, (r7.putS ap nf).1, ap, hk3⟩
theorem dq_sc {elt tg iter : Expr} {ifs : List Expr} {scope : Scope} {own : List (Str × Nat)} {wi : PWs} {g : GD} {wt : PWB} {we : PW} {sl : List Nat} (hc : X.calm = true) (hN : X.N.Nodup) (hi : DI T X W tg iter wi) (ok : BlkOk X.N X.env.scope scope own) (hsl : ∀ i ∈ sl, i ∈ own.map (·.2))
    (hg : ∀ (s : Shared) (H : Hp) (C : Addr) (cl : List (Str × Addr)) (fp : List Addr), DG T (X.blk s H scope (compEnvC scope cl C X.env) fp) sl tg g) (ht : ∀ (s : Shared) (H : Hp) (C : Addr) (cl : List (Str × Addr)) (fp : List Addr), DTs T (X.blk s H scope (compEnvC scope cl C X.env) fp) W0 ifs wt)
    (he : ∀ (s : Shared) (H : Hp) (C : Addr) (cl : List (Str × Addr)) (fp : List Addr), DE T (X.blk s H scope (compEnvC scope cl C X.env) fp) W0 elt we) (hs : ∀ x, foldedSetIterable iter X.env x = pure x := by intro _; rfl) :
    DQ T X W (.SetComp elt [⟨tg, iter, ifs, 0⟩] scope pos) (wSc wi g wt we (own.map (·.2))) := by
  have hg0 := hg X.s_0 X.H_0 0 [] []; have ht0 := ht X.s_0 X.H_0 0 [] []; have he0 := he X.s_0 X.H_0 0 [] []
  refine ⟨pe_mono (pe_sq (wi := liftI T X.K W wi) (g := liftG T X.K sl g) (tt := liftB T X.K W0 wt) (te := lift T X.K W0 we) hc hN hi.pi ok (fun s H C cl fp => (hg s H C cl fp).pg) (fun s H C cl fp => (ht s H C cl fp).pt) (fun s H C cl fp => (he s H C cl fp).pe) hs) fun σ H Q q => sc_imp hi.mono hg0.mono hg0.keep ht0.mono he0.mono hsl q, mono_Sc hi.mono hg0.mono ht0.mono he0.mono⟩
end
end PL
set_option Elab.async false
set_option linter.all false
set_option maxRecDepth 100000
set_option maxHeartbeats 2000000
namespace PL
open PySem PySem.Spec PyProof.Rows L2 KSet
open LamX (ExtN Tabs TabS)
section
variable {T : Tb} {X : Cx} {W : WX} {pos p : Pos} {e a b c : Expr} {K : PySem.W.Frag} {G : Gh} {ρ ρ2 : En} {σ σ2 : L2.St} {H H' : Hp}
theorem bk_rel {P : Program} {w : World} {v : Value} (h : (mixKind P w).is (bk v) v = true) : RelV (kV (bk v)) v := by
  rcases keyIs_shape h with ⟨i, t, e, rfl⟩ | ⟨y, t, e, rfl⟩
  · exact ⟨t, rfl⟩
  · exact ⟨t, rfl⟩
theorem each_bk {P : Program} {w : World} : ∀ {vs : List Value}, (∀ v ∈ vs, (mixKind P w).is (bk v) v = true) → PySem.W.EachIs (fun v k => RelV (kV k) v) vs (vs.map bk)
  | [], _ => .nil
  | v :: vs, h => .cons (bk_rel (h v List.mem_cons_self)) (each_bk fun u hu => h u (List.mem_cons_of_mem _ hu))
theorem each_rd {P : Program} {w : World} {h : Heap} {q : Addr} : ∀ {vs : List Value}, (∀ v ∈ vs, (mixKind P w).is (bk v) v = true) → PySem.W.EachIs (fun v k => ∃ as, Reads h v (keyD k) as ∧ q ∉ as) vs (vs.map bk)
  | [], _ => .nil
  | v :: vs, hv => .cons (by
    rcases keyIs_shape (hv v List.mem_cons_self) with ⟨i, t, e, rfl⟩ | ⟨y, t, e, rfl⟩
    · exact ⟨[], Reads.int i t, by simp⟩
    · exact ⟨[], Reads.str y t, by simp⟩) (each_rd fun u hu => hv u (List.mem_cons_of_mem _ hu))
theorem vals_out {H : Hp} {O : List Addr} : ∀ {us : List Value} {ks : List Key}, PySem.W.EachIs (fun v k => RelV (kV k) v) us ks → Vals (ks.map kV) us ∧ DaAll K (hide O H) (ks.map kV) (ks.map keyD)
  | _, _, .nil => ⟨.nil, .nil⟩
  | _, _, .cons (b := k) r t => by
    obtain ⟨h1, h2⟩ := vals_out t
    refine ⟨.cons r h1, .cons ?_ h2⟩
    cases k with
    | inl i => exact .int i
    | inr x => exact .str x
def rSq (T : Tb) (X : Cx) : List V → Hp → VK → Prop := fun xs H Q => ∃ (a : Addr) (ks : List Key) (G : Gh) (ρ : En) (σ : L2.St), xs = [.ref a] ∧ Rep T X.K G ρ σ H ∧ H a = some (setO X.prog X.w a ks) ∧ ∀ bs : List Key, bs.Perm ks → (PySem.W.AllAlike (bs.map keyD) ∧ PySem.W.Sortable (bs.map keyD)) ∧
  ∀ p vs H', Rep T X.K ⟨G.Hb, p :: G.O, G.fl⟩ ρ σ H' → p ∉ G.O → Apt ρ σ p → H' p = some (.lst vs) → DaAll X.K (hide (p :: G.O) H') vs ((bs.mergeSort (PySem.W.dataLe false keyD)).map keyD) → Q (.ref p) H'
theorem cr_sq {k : Nat} (hr : Room k X.A) : CallR X (.builtin "sorted") (rSq T X) := by
  intro pins s σ0 H xs us Q I rx q
  obtain ⟨a, ks, G, ρ, σ, rfl, r, ha, q⟩ := q
  have hu := hr.un
  obtain ⟨ob, M, ep, tb, ho, hx, hd, B⟩ := setO_get I ha
  cases rx with
  | cons r1 r2 =>
    cases r2
    cases r1
    refine Calls.call_function_entry kind_sorted plain_sorted entry_sorted (args_sorted1 _) ?_
    unfold Builtin.«sorted»
    refine wpAny_bind (m := checkCount "sorted" 1 1 _) (wpAny_pure (wpAny_bind (collect_set (A := X.A.in1) hr.hd ⟨ob, ho, hx.1, hd⟩ B.fit B.few B.ris B.led fun s1 vs k1 hz g1 o1 pm => ?_)))
    have hvi : ∀ v ∈ vs, (mixKind X.prog X.w).is (bk v) v = true := fun v hv => by
      obtain ⟨e, he, rfl⟩ := List.mem_map.mp (pm.mem_iff.mp hv)
      exact (B.ent e he).1
    have pk : (vs.map bk).Perm ks := by
      have := pm.map bk
      rw [List.map_map] at this
      exact this.trans B.per
    obtain ⟨⟨al, so⟩, q⟩ := q _ pk
    have hvl : vs.length = ks.length := by have := pk.length_eq; rwa [List.length_map] at this
    have hsm : ks.length < 4096 := by have := B.few; rw [B.size] at this; exact this
    have hL : vs.length ≤ sizeLine := by rw [hvl, sizeLine_eq]; omega
    refine wpAny_bind (wpAny_newList ?_ hL)
    have hoL : (s1.heap.push (seqObj "list" vs.toArray 0)).get? s1.heap.objs.size = some (seqObj "list" vs.toArray 0) := Heap.get?_push_size _ rfl
    have dk : ∀ k : Key, (keyD k).depth = 0 := fun k => by cases k <;> rfl
    refine wpAny_bind (wpAny_holding (PySem.W.list_sort_data (enc := keyD) (R := fun v k => RelV (kV k) v) hoL (each_bk hvi) (each_rd hvi) al so (by rw [List.length_map]; exact hL) (fun b _ => by rw [dk]; show X.A.units + 1 + 1 + 0 < _; omega) fun out hl eo => ?_))
    have Ia : Inv X pins σ0 H s1 := I.call' (ch := []) o1 (Un.kept k1) (I.hok.kept k1) (by rw [g1]; exact I.bare) (fun _ z => nomatch z)
    obtain ⟨ce, hce⟩ := sortedHeap_at (vs := vs) (out := out.toArray) hoL
    obtain ⟨hv, hda⟩ := vals_out (K := X.K) (H := H) (O := G.O) eo
    have hn : H s1.heap.objs.size = none := Ia.hok.fresh (Nat.le_refl _)
    obtain ⟨q1, q2, q3, q4, q5⟩ := r.newL hn hda
    have hlen : ((((vs.map bk).mergeSort (PySem.W.dataLe false keyD)).map kV).length) ≤ sizeLine := by rw [List.length_map, List.length_mergeSort, List.length_map]; exact hL
    refine wpAny_pure ⟨_, rfl, .ref _, L2.upd H s1.heap.objs.size (.lst _), Ia.laid (t' := s1.toks) (fun b u e => ?_) (Nat.le_refl _) ⟨hlen, out, ce, hv, hce⟩, rfl, q _ _ _ q1 q2 q3 q4 q5⟩
    have hlt := Heap.lt_size e
    show (sortedHeap (s1.heap.push (seqObj "list" vs.toArray 0)) s1.heap.objs.size vs out.toArray).get? b = some u
    rw [sortedHeap_old (Nat.ne_of_lt hlt) (by rw [size_push']; exact Nat.lt_succ_of_lt hlt)]
    exact Heap.get?_push_of_some _ e
/-- sorted of a set comprehension -/
def wSortSc (wq : PWk) : PW := fun ρ Q E => wq ρ (fun ks => ∀ bs : List Key, bs.Perm ks → (PySem.W.AllAlike (bs.map keyD) ∧ PySem.W.Sortable (bs.map keyD)) ∧ Q (.list ((bs.mergeSort (PySem.W.dataLe false keyD)).map keyD))) E
theorem df_sortsc {k : Nat} {x : Str} {wq : PWk} (hr : Room k X.A) (ex : x = "sorted") (hg : Gl X "sorted") (hm : X.mg "sorted" = none) (h : DQ T X W e wq) (he : starEach [e] X.env = (false, eval e X.env) :: starEach [] X.env := by rfl) : DF T X W (.Call (.Name "sorted" p) [e] [] pos) (wSortSc wq) :=
  ⟨pe_mono (pe_callB (cr_sq (T := T) hr) hg hm (by decide +kernel : bootBuiltins "sorted" = some (.builtin "sorted")) (pa_cons h.pe pa_nil he) (by decide) (by decide) he rfl) fun σ H Q q => by
    obtain ⟨G, ρ, r, q⟩ := q
    refine ⟨G, ρ, r, h.mono _ _ _ _ _ (fun ks hk a H' r' na ap ha => ?_) (fun _ z => z) q⟩
    exact ⟨a, ks, G, ρ, σ, rfl, r.drop r' ap, ha, fun bs pb => ⟨(hk bs pb).1, fun p vs H2 r2 n2 ap2 h2 d2 => (hk bs pb).2 p vs _ H2 rfl r2 n2 ap2 h2 d2⟩⟩, fun ρ Q Q' E E' hq he q => h.mono _ _ _ _ _ (fun ks hk bs pb => ⟨(hk bs pb).1, hq _ (hk bs pb).2⟩) he q⟩
end
end PL
set_option Elab.async false
set_option linter.all false
set_option maxRecDepth 100000
set_option maxHeartbeats 2000000
/-! set comprehensions of tuples of ints -/
namespace KSetT
open PySem PySem.Spec PyProof.Rows L2 KSet
section
variable {X : Cx}
theorem addT_ok {pins : List (Addr × Obj)} {σ : L2.St} {H : Hp} {s : Shared} {E : Value → Shared → Prop} {D x : Addr} {k : List Int} {L : List (Addr × List Int)} {Q : Value → Shared → Prop} (hu : X.A.units + 8 < cLine) (I : Inv X pins σ H s) (hx : SqT X.K H x (k.map V.int)) (hD : H D = some (SetTO X.prog X.w D L))
    (hL : ∀ p ∈ L, SqT X.K H p.1 (p.2.map V.int)) (room : L.length + 1 < 64)
    (h : ∀ s' L', (L'.map (·.2)).Nodup → (k ∈ L.map (·.2) → L' = L) → (k ∉ L.map (·.2) → L'.Perm ((x, k) :: L)) → Inv X pins σ (upd H D (SetTO X.prog X.w D L')) s' → Q .none s') : wpAny (model X.prog X.w) X.A (call (.builtin "set.add") [.ref D, .ref x]) Q E s := by
  have R0 : SetT0 X.prog X.w s.heap D L := (I.hok D _ hD).1
  obtain ⟨es, ep, t, R⟩ := R0.full fun p hp => I.isT (hL p hp)
  have tx := I.isT hx
  obtain ⟨ob, ho, hex, hd⟩ := R.ob
  refine wpAny_call_entry F.slot_set_add ⟨ob, ho, hex.1⟩ F.entry_set_add ?_ (F.args_set_add_2 _ _)
  unfold Builtin.«set.add» Builtin.Frozenset.oneOther
  simp only [List.isEmpty_nil, bind_assoc]
  unfold Builtin.Frozenset.addrOf setAdd
  refine wpAny_bind (wpAny_pure ?_); try dsimp only
  refine wpAny_bind (wpAny_pure ?_); try dsimp only
  refine wpAny_bind (wpAny_holding (wpAny_bind (wpAny_pyHash_tuple (knd := intKind X.prog X.w) (by show X.A.units + 1 < _; omega) tx ?_)))
  refine add_at (s := { s with toks := s.toks + (k.length + 1) }) R tx (by show X.A.units + 1 < _; omega) room fun b h' L' es' ep' t' sb R' c1 c2 => ?_
  show wpAny _ _ (ret Value.none) _ _ _
  refine wpAny_pure ⟨_, rfl, h _ L' R'.nd c1 c2 (I.write (e := D) (t' := _) (by rw [hD]; trivial) (.inl rfl) (fun b u hb hu => (sb.2 b hb).trans hu) ?_ (setTO_new R'.t0))⟩
  obtain ⟨o, ho', _⟩ := R'.ob
  exact ⟨o, ho'⟩
def tSqT (K : PySem.W.Frag) (P : Program) (w : World) (wi : TI) (g : TG) (tt : TT) (te : TE) (vs : List Nat) : TE := fun σ H Q => wi σ H fun J H1 => ∀ D, H1 D = none → ∃ W : Nat → Nat → Hp → Prop, (∃ m, W 0 m (upd H1 D (SetTO P w D []))) ∧ ∀ i m H, W i m H →
  (J.stop i H ∧ Q (.ref D) H) ∨ (J.go i H ∧ ∃ Nx : Hp → Prop, (∀ H', Nx H' → ∃ m', m' < m ∧ W (i + 1) m' H') ∧ ∀ x H', J.yld i H x H' → g x (wipe σ vs) H' fun σ2 H2 => wipe σ2 vs = wipe σ vs ∧ tt σ2 H2 fun b H3 =>
    if b = true then te σ2 H3 fun y H4 => ∃ (x : Addr) (k : List Int) (L : List (Addr × List Int)), y = .ref x ∧ SqT K H4 x (k.map V.int) ∧ H4 D = some (SetTO P w D L) ∧ (∀ p ∈ L, SqT K H4 p.1 (p.2.map V.int)) ∧ L.length + 1 < 64 ∧ ∀ L', (L'.map (·.2)).Nodup → (k ∈ L.map (·.2) → L' = L) → (k ∉ L.map (·.2) → L'.Perm ((x, k) :: L)) → Nx (upd H4 D (SetTO P w D L')) else Nx H3)
theorem sq_coreT {pins : List (Addr × Obj)} {s : Shared} {σ : L2.St} {H : Hp} {Q : VK} {elt tg iter : Expr} {ifs : List Expr} {scope : Scope} {own : List (PySem.Str × Nat)} {pos ppos : Pos} {wi : TI} {g : TG} {tt : TT} {te : TE} {use : Option (Value → Sem Unit)} {Z : Value → Shared → Prop}
    (hu : X.A.units + 8 < cLine) (hc : X.calm = true) (hN : X.N.Nodup) (I : Inv X pins σ H s) (hi : PI X tg iter wi) (ok : BlkOk X.N X.env.scope scope own)
    (hg : ∀ (s : Shared) (H : Hp) (C : Addr) (cl : List (PySem.Str × Addr)) (fp : List Addr), PG (X.blk s H scope (compEnvC scope cl C X.env) fp) tg g) (ht : ∀ (s : Shared) (H : Hp) (C : Addr) (cl : List (PySem.Str × Addr)) (fp : List Addr), PTs (X.blk s H scope (compEnvC scope cl C X.env) fp) ifs tt)
    (he : ∀ (s : Shared) (H : Hp) (C : Addr) (cl : List (PySem.Str × Addr)) (fp : List Addr), PE (X.blk s H scope (compEnvC scope cl C X.env) fp) elt te) (hs : ∀ x, foldedSetIterable iter X.env x = pure x) (h : tSqT X.K X.prog X.w wi g tt te (own.map (·.2)) σ H Q)
    (hZ : ∀ D C s' m H', Inv X pins σ H' s' → Q (.ref D) H' → s'.heap.Ns C m → FpOk X pins H' C → compPost (model X.prog X.w) X.A X.xe use Z (.ref D) C (.ok .next) s') :
    wpAny (model X.prog X.w) X.A (comprehension (.SetComp elt [⟨tg, iter, ifs, 0⟩] scope pos) scope X.env ppos (newSet (.type "set")) false (eval iter X.env) use) Z X.xe s := by
  have frees : ∀ y ∈ scope.names, y.2 = .free → ∃ c, X.env.cells.lookup y.1 = some c := fun y hy e => (ok.free y hy e).elim (fun k => I.ok.has _ (.inl k)) fun k => I.ok.has _ (.inr k)
  refine wpAny_comprehension_free (use := use) rfl hs (closure_ok frees) ok.kind (fun y hy e => by rw [ok.uniq y hy, e]) (thn (hi.run pins s σ H _ I h) fun xv s1 hx => thn hx fun itv s2 ⟨it, fp, tn, J, Ha, e, Ia, TT, sta, fa, q⟩ => ?_)
  subst e
  refine PpSet.newSet_ok (newEnv_comp ?_)
  generalize eD : s2.heap.objs.size = D
  have nD : Ha D = none := Ia.hok.fresh (Nat.le_of_eq eD)
  obtain ⟨W, ⟨m0, w0⟩, turn⟩ := q D nD
  generalize eb : ({ s2 with heap := s2.heap.push { cls := .type "set", dict := none, data := .set #[] 0 (.fresh 0 0 (!X.w.params.followText "set-order")) } } : Shared) = sb
  have Ib : Inv X pins σ (upd Ha D (SetTO X.prog X.w D [])) sb := by
    rw [← eb]
    refine Ia.laid (t' := s2.toks) (fun b o e => Heap.get?_push_of_some _ e) (Nat.le_of_eq eD) (by rw [← eD]; exact setTO_new (setTR_fresh (Heap.get?_push_size _ rfl)).t0)
  have hb : sb.heap = s2.heap.push { cls := .type "set", dict := none, data := .set #[] 0 (.fresh 0 0 (!X.w.params.followText "set-order")) } := by rw [← eb]
  have small : ∀ b ∈ fp, b < s2.heap.objs.size := fun b hb => by obtain ⟨o, e, _⟩ := TT.obj _ _ sta b hb; exact Heap.lt_size e
  have fb : ∀ b ∈ fp, FpOk X pins (upd Ha D (SetTO X.prog X.w D [])) b ∧ b < sb.heap.objs.size := fun b hbm => by
    have lt := small b hbm
    refine ⟨⟨?_, (fa b hbm).2⟩, by rw [hb, Heap.size_push]; exact Nat.lt_succ_of_lt lt⟩
    rw [upd_ne (by rw [← eD]; exact Nat.ne_of_lt lt)]; exact (fa b hbm).1
  have stb : tn 0 sb.heap := TT.keep _ _ _ sta fun b _ o e => by rw [hb]; exact Heap.get?_push_of_some _ e
  have Ic := block_start Ib ok hN fb
  generalize ecl : cellsFrom (sb.heap.objs.size + 1) scope.names (cloFrom X.env.cells scope.names []) = cl at Ic
  have pg := hg sb (upd Ha D (SetTO X.prog X.w D [])) sb.heap.objs.size cl fp; have pt := ht sb (upd Ha D (SetTO X.prog X.w D [])) sb.heap.objs.size cl fp; have pe := he sb (upd Ha D (SetTO X.prog X.w D [])) sb.heap.objs.size cl fp
  show codeAny _ _ (.compStart (.SetComp elt [⟨tg, iter, ifs, 0⟩] scope pos) 0 (.ref it) (.ref D) (compEnvC scope cl sb.heap.objs.size X.env)) (compPost (model X.prog X.w) X.A X.xe use Z (.ref D) sb.heap.objs.size) { sb with heap := pushCells (sb.heap.push { cls := .type "dict", data := .dict #[] }) scope.names }
  have noH : ∀ b ∈ fp, (upd Ha D (SetTO X.prog X.w D [])) b = none := fun b hbm => (fb b hbm).1.1
  generalize ece : compEnvC scope cl sb.heap.objs.size X.env = ce at Ic pg pt pe ⊢
  have cL : ce.locals = sb.heap.objs.size := by subst ece; rfl
  generalize eHb : upd Ha D (SetTO X.prog X.w D []) = Hb at Ib Ic pg pt pe w0 noH fb
  generalize esc : ({ sb with heap := pushCells (sb.heap.push { cls := .type "dict", data := .dict #[] }) scope.names } : Shared) = sc at Ic ⊢
  have stc : tn 0 sc.heap := TT.keep _ _ _ stb fun b _ o e => by rw [← esc]; exact pushCells_keeps _ _ _ _ (Heap.get?_push_of_some _ e)
  have still : ∀ {σ' : L2.St} {H' : Hp} {s' : Shared}, Inv (X.blk sb Hb scope ce fp) [] σ' H' s' → (∀ b ∈ fp, H' b = none) → ∀ b ∈ fp, FpOk (X.blk sb Hb scope ce fp) [] H' b := fun {σ' H' s'} I' hn b hbm => ⟨hn b hbm, (I'.ok.exf b hbm).1, I'.ok.exfs b hbm, .inl hbm, fun x c e => (I'.ok.exf b hbm).2 x c e, fun p hp => absurd (show p ∈ ([] : List (Addr × Obj)) ++ [] from hp) (by simp)⟩
  have loop : codeAny (model X.prog X.w) X.A (.compLoop (.SetComp elt [⟨tg, iter, ifs, 0⟩] scope pos) 0 (.ref it) (.ref D) ce) (compPost (model X.prog X.w) X.A X.xe use Z (.ref D) sb.heap.objs.size) sc := by
    refine PpSet.compLoopS_any (fun n s' => ∃ i H', Inv (X.blk sb Hb scope ce fp) [] (wipe σ (own.map (·.2))) H' s' ∧ tn i s'.heap ∧ (∀ b ∈ fp, H' b = none) ∧ W i n H') ?_ m0 ⟨0, Hb, Ic, stc, noH, w0⟩
    rintro n sd ⟨i, Hd, Id, std, nd, wd⟩
    rcases turn i n Hd wd with ⟨stop, qq⟩ | ⟨go, Nx, hNx, step⟩
    · refine thnF (TT.done (X.blk sb Hb scope ce fp) rfl rfl rfl hc i [] sd _ Hd (fun _ _ => False) Id (still Id nd) std stop) fun r s6 ⟨hr, I6⟩ => ?_
      subst hr
      have I7 : Inv X pins σ Hd s6 := Ib.call' (ch := fp) I6.os I6.base I6.hok I6.bare fun b hbm => ⟨(fb b hbm).1.2.2.2.1, (fb b hbm).1.2.1, (fb b hbm).1.2.2.2.2.1, (fb b hbm).1.2.2.2.2.2⟩
      have nC : Hd sb.heap.objs.size = none := by have z : Hd ce.locals = none := I6.free; rwa [cL] at z
      obtain ⟨m, hn, _⟩ := I6.loc
      have hn : s6.heap.Ns ce.locals m := hn
      rw [cL] at hn
      exact hZ D sb.heap.objs.size s6 m Hd I7 qq hn (Ib.fpOk (Nat.le_refl _) nC)
    · refine thnF (TT.item (X.blk sb Hb scope ce fp) rfl rfl rfl hc i [] sd _ Hd (fun _ _ => False) Id (still Id nd) std go) fun r s6 ⟨u, hr, h6⟩ => ?_
      subst hr
      refine thnF h6 fun _ s7 ⟨x, H7, I7, r7, y7, st7, n7⟩ => ?_
      refine thnF (pg.run _ s7 _ H7 x u _ (I7.pinned (still I7 n7) (TT.obj _ _ st7)) r7 (step x H7 y7)) fun _ s8 ⟨σ8, H8, I8, hw8, q8⟩ => thnF (pt.run _ s8 σ8 H8 _ I8 q8) fun b s9 ⟨H9, I9, q9⟩ => ?_
      have fin : ∀ {s' : Shared} {H' : Hp}, Inv (X.blk sb Hb scope ce fp) ([] ++ pinsAt fp s7.heap) σ8 H' s' → Nx H' → ∃ m, m < n ∧ ∃ i H', Inv (X.blk sb Hb scope ce fp) [] (wipe σ (own.map (·.2))) H' s' ∧ tn i s'.heap ∧ (∀ b ∈ fp, H' b = none) ∧ W i m H' := fun {s' H'} I' nx => by
        obtain ⟨m', hm, w'⟩ := hNx H' nx
        have pin : ∀ b ∈ fp, ∀ o, s7.heap.get? b = some o → s'.heap.get? b = some o ∧ H' b = none := fun b hbm o e => let z := I'.pin (b, o) (List.mem_append_right _ (List.mem_append_right _ (mem_pinsAt hbm e))); ⟨z.1, z.2.1⟩
        refine ⟨m', hm, i + 1, H', (I'.unpinned (pins := [])).weak (by rw [← hw8, wipe_length]) (fun j v e => by rw [← hw8] at e; exact (wipe_some e).1), TT.keep _ _ _ st7 fun b hbm o e => (pin b hbm o e).1, fun b hbm => ?_, w'⟩
        obtain ⟨o, e, _⟩ := TT.obj _ _ st7 b hbm
        exact (pin b hbm o e).2
      cases b with
      | false => simp only [Bool.false_eq_true, if_false] at q9 ⊢; exact fin I9 q9
      | true =>
        simp only [if_true] at q9 ⊢
        refine thnF (pe.run _ s9 σ8 H9 _ I9 q9) fun z s10 ⟨yv, H10, I10, r10, x, k, L, ey, hx, hD10, hL, room, nx⟩ => ?_
        subst ey
        cases r10
        exact addT_ok (X := X.blk sb Hb scope ce fp) (k := k) (by exact hu) I10 hx hD10 hL room fun s11 L' n1 c1 c2 I11 => fin I11 (nx L' n1 c1 c2)
  exact PpSet.codeAny_compStart_set loop (TT.self X.A 0 _ _ _ stc loop)
theorem pe_sqT {elt tg iter : Expr} {ifs : List Expr} {scope : Scope} {own : List (PySem.Str × Nat)} {pos : Pos} {wi : TI} {g : TG} {tt : TT} {te : TE} (hu : X.A.units + 8 < cLine) (hc : X.calm = true) (hN : X.N.Nodup) (hi : PI X tg iter wi) (ok : BlkOk X.N X.env.scope scope own)
    (hg : ∀ (s : Shared) (H : Hp) (C : Addr) (cl : List (PySem.Str × Addr)) (fp : List Addr), PG (X.blk s H scope (compEnvC scope cl C X.env) fp) tg g) (ht : ∀ (s : Shared) (H : Hp) (C : Addr) (cl : List (PySem.Str × Addr)) (fp : List Addr), PTs (X.blk s H scope (compEnvC scope cl C X.env) fp) ifs tt)
    (he : ∀ (s : Shared) (H : Hp) (C : Addr) (cl : List (PySem.Str × Addr)) (fp : List Addr), PE (X.blk s H scope (compEnvC scope cl C X.env) fp) elt te) (hs : ∀ x, foldedSetIterable iter X.env x = pure x := by intro _; rfl) :
    PE X (.SetComp elt [⟨tg, iter, ifs, 0⟩] scope pos) (tSqT X.K X.prog X.w wi g tt te (own.map (·.2))) := ⟨fun pins s σ H Q I h => by
  rw [PpSet.eval_SetComp]
  refine sq_coreT hu hc hN I hi ok hg ht he hs h fun D C s' m H' I' q hn ⟨f0, f1, f2, f3, f4, f5⟩ => ⟨m, hn, fun h'' sb => ⟨.ref D, H', I'.turned (t' := s'.toks) (fun b o hb e => (sb.2 b hb).trans e) f0 f1 f3 f4 f5, rfl, q⟩⟩⟩
end
end KSetT
set_option Elab.async false
set_option linter.all false
set_option maxRecDepth 100000
set_option maxHeartbeats 2000000
namespace PL
open PySem PySem.Spec PyProof.Rows L2 KSet KSetT
open LamX (ExtN Tabs TabS)
theorem setTO_code {P : Program} {w : World} {a c : Addr} {L : List (Addr × List Int)} {q : Str} : SetTO P w a L ≠ LamX.CodeO c q := fun z => by
  have e : (fun h => SetT0 P w h a L) = fun h => ∃ (oc : Obj) (vs : Array Value) (t : Tok), h.get? c = some oc ∧ oc.data = .fields vs ∧ vs[1]? = some (.str q t) := HO.ext.inj z
  have key : ∀ n : Nat, ∃ g : Heap, g.objs.size = n ∧ ∀ b ob, g.get? b = some ob → ∃ vs, ob.data = .fields vs := fun n => by
    induction n with
    | zero => exact ⟨{ objs := #[] }, rfl, fun b ob e => absurd (Heap.lt_size e) (Nat.not_lt_zero _)⟩
    | succ n ih =>
      obtain ⟨g, e1, e2⟩ := ih
      refine ⟨g.push { cls := .none, data := .fields #[] }, by rw [Heap.size_push, e1], fun b ob e => ?_⟩
      by_cases hb : b = g.objs.size
      · subst hb
        rw [Heap.get?_push_size _ rfl] at e
        cases e
        exact ⟨_, rfl⟩
      · exact e2 b ob (by rwa [Heap.get?_push_ne g b _ hb] at e)
  obtain ⟨g, e1, e2⟩ := key c
  have g1 : (g.push { cls := .none, data := .fields #[.none, .str q 0] }).get? c = some { cls := .none, data := .fields #[.none, .str q 0] } := by rw [← e1]; exact Heap.get?_push_size _ rfl
  have h4 : ∃ (oc : Obj) (vs : Array Value) (t : Tok), (g.push { cls := .none, data := .fields #[.none, .str q 0] }).get? c = some oc ∧ oc.data = .fields vs ∧ vs[1]? = some (.str q t) := ⟨_, _, 0, g1, rfl, rfl⟩
  rw [← congrFun e (g.push { cls := .none, data := .fields #[.none, .str q 0] })] at h4
  obtain ⟨es, ep, tb, ⟨ob, ho, _, hd⟩, _⟩ := h4.ex
  by_cases ha : a = g.objs.size
  · subst ha
    rw [Heap.get?_push_size _ rfl] at ho
    cases ho
    cases hd
  · obtain ⟨vs, e5⟩ := e2 a ob (by rwa [Heap.get?_push_ne g a _ ha] at ho)
    rw [hd] at e5
    cases e5
section
variable {T : Tb} {X : Cx} {W : WX} {pos p : Pos} {e a b c : Expr} {K : PySem.W.Frag} {G : Gh} {ρ ρ2 : En} {σ σ2 : L2.St} {H H' : Hp}
theorem TOk.updST {P : Program} {w : World} {D x : Addr} {ks : List (Addr × List Int)} {o' : HO} (t : TOk T H) (hD : H D = some (SetTO P w x ks)) : TOk T (L2.upd H D o') := by
  refine ⟨fun Q hQ => ?_, fun p hp => ?_⟩
  · obtain ⟨ps, h1, h2⟩ := t.g Q hQ
    exact ⟨ps, by rw [upd_ne fun z => by rw [z, hD] at h1; cases h1]; exact h1, h2⟩
  · obtain ⟨ps, h1, h2, h3⟩ := t.l p hp
    refine ⟨ps, by rw [upd_ne fun z => by rw [z, hD] at h1; cases h1]; exact h1, h2, fun pos cv hcv => ?_⟩
    obtain ⟨c', e, h4⟩ := h3 pos cv hcv
    exact ⟨c', e, by rw [upd_ne fun z => by rw [z, hD] at h4; exact setTO_code (Option.some.inj h4)]; exact h4⟩
/-- a set of ours in flight is written -/
theorem Rep.putST {P : Program} {w : World} {Hb : Hp} {O : List Addr} {fl : List (Addr × HO)} {D x : Addr} {ks ks' : List (Addr × List Int)} (r : Rep T K ⟨Hb, O, (D, SetTO P w x ks) :: fl⟩ ρ σ H) (ap : Apt ρ σ D) (hn : ∀ q ∈ fl, q.1 ≠ D) :
    Rep T K ⟨Hb, O, (D, SetTO P w x ks') :: fl⟩ ρ σ (upd H D (SetTO P w x ks')) ∧ hide O (upd H D (SetTO P w x ks')) = hide O H := by
  obtain ⟨hO, hD⟩ := r.fly _ List.mem_cons_self
  have eh : hide O (upd H D (SetTO P w x ks')) = hide O H := hide_upd hO
  have off : ∀ (j : Nat) (s : Sl) (b : Addr), ρ[j]? = some s → s.owned = true → σ[j]? = some (some (.ref b)) → b ≠ D := fun j s b hj hs e z => by
    rw [z] at e; exact ap j s hj hs e
  refine ⟨⟨r.len, fun j s hj => ?_, r.sep, r.tab.updST hD, by rw [eh]; exact r.ext, fun b hb => ?_, fun q hq => ?_, fun b hb => ?_⟩, eh⟩
  · obtain ⟨u, h1, h2⟩ := r.slot j s hj
    refine ⟨u, h1, ?_⟩
    cases s with
    | un => trivial
    | sh d => obtain ⟨x, h3, h4⟩ := h2; exact ⟨x, h3, by rw [eh]; exact h4⟩
    | ol ds => obtain ⟨b, us, h3, h4, h5, h6⟩ := h2; subst h3; exact ⟨b, us, rfl, h4, by rw [upd_ne (off j _ b hj rfl h1)]; exact h5, by rw [eh]; exact h6⟩
    | ok ds => obtain ⟨b, us, h3, h4, h5, h6, h7⟩ := h2; subst h3; exact ⟨b, us, rfl, h4, by rw [upd_ne (off j _ b hj rfl h1)]; exact h5, h6, by rw [eh]; exact h7⟩
    | ot ds => obtain ⟨b, us, h3, h4, h5, h6, h7⟩ := h2; subst h3; exact ⟨b, us, rfl, h4, by rw [upd_ne (off j _ b hj rfl h1)]; exact h5, h6, by rw [eh]; exact h7⟩
    | dice => exact h2
    | scr ns => obtain ⟨b, h3, h4⟩ := h2; exact ⟨b, h3, by rw [eh]; exact h4⟩
  · by_cases z : b = D
    · rw [z, upd_same]; exact ⟨_, rfl, fun ps e => by cases e⟩
    · rw [upd_ne z]; exact r.dom b hb
  · rcases List.mem_cons.mp hq with z | z
    · rw [z]; exact ⟨hO, upd_same⟩
    · rw [upd_ne (hn q z)]; exact r.fly q (List.mem_cons_of_mem _ z)
  · obtain ⟨h1, h2, h3⟩ := r.dcs b hb
    have nb : b ≠ D := fun z => h3 _ List.mem_cons_self z.symm
    refine ⟨h1, by rw [upd_ne nb]; exact h2, fun q hq => ?_⟩
    rcases List.mem_cons.mp hq with z | z
    · rw [z]; exact fun z => nb z.symm
    · exact h3 q (List.mem_cons_of_mem _ z)
/-! ### what a set comprehension of tuples gathers -/
def addI (acc : List (List Int)) (k : List Int) : List (List Int) := if k ∈ acc then acc else k :: acc
def goSt (g : GD) (wt : PWB) (we : PW) (ρw : En) : List PyData → List (List Int) → (List (List Int) → Prop) → Prop
  | [], ks, Q => Q ks
  | d :: ds, ks, Q => g d ρw fun ρ2 => wt ρ2 (fun b => if b = true then we ρ2 (fun y => ∃ k : List Int, y = .tuple (k.map .int) ∧ ks.length + 1 < 64 ∧ goSt g wt we ρw ds (addI ks k) Q) (fun _ => False) else goSt g wt we ρw ds ks Q) (fun _ => False)
theorem goSt_mono {g : GD} {wt : PWB} {we : PW} {ρw : En} (mg : ∀ d ρ Q Q', (∀ r, Q r → Q' r) → g d ρ Q → g d ρ Q') (mt : Mono wt) (me : Mono we) {Q Q' : List (List Int) → Prop} (hq : ∀ d, Q d → Q' d) : ∀ (ds : List PyData) (ks : List (List Int)), goSt g wt we ρw ds ks Q → goSt g wt we ρw ds ks Q'
  | [], ks, h => hq _ h
  | d :: ds, ks, h => mg _ _ _ _ (fun ρ2 h2 => mt _ _ _ _ _ (fun k hk => by
      cases k with
      | true => exact me _ _ _ _ _ (fun y ⟨k, h1, h2, h3⟩ => ⟨k, h1, h2, goSt_mono mg mt me hq ds _ h3⟩) (fun _ z => z) hk
      | false => exact goSt_mono mg mt me hq ds _ hk) (fun _ z => z) h2) h
abbrev PWt := En → (List (List Int) → Prop) → (Exn → Prop) → Prop
def wSt (wi : PWs) (g : GD) (wt : PWB) (we : PW) (vs : List Nat) : PWt := fun ρ Q E => NoOwn vs ρ ∧ wi ρ (fun ds => goSt g wt we (wipeE ρ vs) ds [] Q) E
theorem mono_St {wi : PWs} {g : GD} {wt : PWB} {we : PW} {vs : List Nat} (mi : Mono wi) (mg : ∀ d ρ Q Q', (∀ r, Q r → Q' r) → g d ρ Q → g d ρ Q') (mt : Mono wt) (me : Mono we) : Mono (wSt wi g wt we vs) := fun ρ Q Q' E E' hq he h =>
  ⟨h.1, mi _ _ _ _ _ (fun ds hd => goSt_mono mg mt me (fun ks hk => hq _ hk) ds [] hd) he h.2⟩
/-- a new set, ours, in flight -/
def liftQT (T : Tb) (P : Program) (w : World) (K : PySem.W.Frag) (W : WX) (wq : PWt) : TE := fun σ H Q => ∃ G ρ, Rep T K G ρ σ H ∧ wq ρ (fun ks => ∀ a H', Rep T K ⟨G.Hb, a :: G.O, G.fl⟩ ρ σ H' → a ∉ G.O → Apt ρ σ a → ∀ L, H' a = some (SetTO P w a L) → (L.map (·.2)).Perm ks → Q (.ref a) H') (exOut T K W G ρ σ)
structure DQT (T : Tb) (X : Cx) (W : WX) (e : Expr) (w : PWt) : Prop where
  pe : PE X e (liftQT T X.prog X.w X.K W w)
  mono : Mono w
theorem st_imp {own : List (Str × Nat)} {wi : PWs} {g : GD} {wt : PWB} {we : PW} {sl : List Nat} {Q : VK} (mi : Mono wi) (mg : ∀ d ρ Q Q', (∀ r, Q r → Q' r) → g d ρ Q → g d ρ Q') (kg : ∀ d ρ Q, g d ρ Q → g d ρ fun ρ' => Q ρ' ∧ Off sl ρ ρ' ∧ Shd sl ρ') (mt : Mono wt) (me : Mono we) (hsl : ∀ i ∈ sl, i ∈ own.map (·.2))
    (q : liftQT T X.prog X.w X.K W (wSt wi g wt we (own.map (·.2))) σ H Q) : tSqT X.K X.prog X.w (liftI T X.K W wi) (liftG T X.K sl g) (liftB T X.K W0 wt) (lift T X.K W0 we) (own.map (·.2)) σ H Q := by
  generalize hvs : own.map (·.2) = vs at hsl q ⊢
  obtain ⟨G, ρ, r, no, q⟩ := q
  refine ⟨G, ρ, r, mi _ _ _ _ _ (fun ds hgo J H1 r1 wk D hD => ?_) (fun _ z => z) q⟩
  have nD : D ∉ G.O := fun z => by obtain ⟨o, e, _⟩ := r1.dom D z; rw [hD] at e; cases e
  have nf : ∀ q ∈ G.fl, q.1 ≠ D := fun q hq z => nD (by rw [← z]; exact (r1.fly q hq).1)
  refine ⟨fun i m H2 => ∃ (ks : List (List Int)) (L : List (Addr × List Int)), m = ds.length - i ∧ Rep T X.K ⟨hide G.O H1, D :: G.O, (D, SetTO X.prog X.w D L) :: G.fl⟩ ρ σ H2 ∧ Apt ρ σ D ∧ (L.map (·.2)).Perm ks ∧ (∀ p ∈ L, SqT X.K (hide (D :: G.O) H2) p.1 (p.2.map V.int)) ∧ goSt g wt we (wipeE ρ vs) (ds.drop i) ks (fun ks => ∀ a H', Rep T X.K ⟨G.Hb, a :: G.O, G.fl⟩ ρ σ H' → a ∉ G.O → Apt ρ σ a → ∀ L, H' a = some (SetTO X.prog X.w a L) → (L.map (·.2)).Perm ks → Q (.ref a) H'), ?_, fun i m H2 hW => ?_⟩
  · obtain ⟨r2, eh, na, ap⟩ := r1.own (o := SetTO X.prog X.w D []) hD (fun ps z => by cases z)
    exact ⟨_, [], [], rfl, ⟨r2.len, r2.slot, r2.sep, r2.tab, r2.ext |> fun _ => (by rw [show hide (D :: G.O) (upd H1 D (SetTO X.prog X.w D [])) = hide G.O H1 from hide_new hD]; exact ExtN.refl _), r2.dom, fun p hp => by
      rcases List.mem_cons.mp hp with e | hp
      · rw [e]; exact ⟨List.mem_cons_self, upd_same⟩
      · exact r2.fly p hp, fun b hb => ⟨(r2.dcs b hb).1, (r2.dcs b hb).2.1, fun q hq => by
      rcases List.mem_cons.mp hq with e | hq
      · rw [e]; exact fun z => nD (by rw [show D = b from z]; exact (r1.dcs b hb).1)
      · exact (r2.dcs b hb).2.2 q hq⟩⟩, ap, .nil, (fun p hp => by cases hp), by rw [List.drop_zero]; exact hgo⟩
  · obtain ⟨ks, L, rfl, r2, ap, pm, tl, hgo⟩ := hW
    have hDv := (r2.fly _ List.mem_cons_self).2
    have dm : ∀ a ∈ D :: G.O, H2 a ≠ none := fun a ha z => by obtain ⟨o, e, _⟩ := r2.dom a ha; rw [z] at e; cases e
    obtain ⟨wk1, wk2⟩ := wk (D :: G.O) H2 r2.ext dm
    cases hd : ds.drop i with
    | nil =>
      refine .inl ⟨wk2 i (List.drop_eq_nil_iff.mp hd), ?_⟩
      rw [hd] at hgo
      exact hgo D H2 ((r2.land.1).unbase' _ r1.ext) nD ap L hDv pm
    | cons d rest =>
      have hi' : i < ds.length := by
        by_cases z : i < ds.length
        · exact z
        · rw [List.drop_eq_nil_of_le (by omega)] at hd; cases hd
      have hdi : ds[i]? = some d := by
        have := List.drop_eq_getElem_cons hi'
        rw [hd] at this
        rw [List.getElem?_eq_getElem hi', ← (List.cons.inj this).1]
      have hrest : ds.drop (i + 1) = rest := by
        have := List.drop_eq_getElem_cons hi'
        rw [hd] at this
        exact (List.cons.inj this).2.symm
      obtain ⟨jgo, yld⟩ := wk1 i d hdi
      rw [hd] at hgo
      refine .inr ⟨jgo, fun H' => ∃ (ks : List (List Int)) (L : List (Addr × List Int)), Rep T X.K ⟨hide G.O H1, D :: G.O, (D, SetTO X.prog X.w D L) :: G.fl⟩ ρ σ H' ∧ Apt ρ σ D ∧ (L.map (·.2)).Perm ks ∧ (∀ p ∈ L, SqT X.K (hide (D :: G.O) H') p.1 (p.2.map V.int)) ∧ goSt g wt we (wipeE ρ vs) rest ks (fun ks => ∀ a H', Rep T X.K ⟨G.Hb, a :: G.O, G.fl⟩ ρ σ H' → a ∉ G.O → Apt ρ σ a → ∀ L, H' a = some (SetTO X.prog X.w a L) → (L.map (·.2)).Perm ks → Q (.ref a) H'), fun H' hN' => ?_, fun x H3 hy => ?_⟩
      · obtain ⟨ks, L, h1, h2, h3, h4, h5⟩ := hN'
        exact ⟨ds.length - (i + 1), by omega, ks, L, rfl, h1, h2, h3, h4, by rw [hrest]; exact h5⟩
      · obtain ⟨al, hx⟩ := yld x H3 hy
        have r3 := r2.alloc al
        have e3 : ExtN (hide (D :: G.O) H2) (hide (D :: G.O) H3) := ext_hide fun b o _ h _ => al b o h
        have tl3 : ∀ p ∈ L, SqT X.K (hide (D :: G.O) H3) p.1 (p.2.map V.int) := fun p hp => sqT_ext e3 (tl p hp)
        refine ⟨_, _, d, (r3.rebase.wipe vs), hx, mg _ _ _ _ (fun ρ2 h2 σ2 r4 w4 => ⟨by rw [w4 vs hsl, wipe_wipe], ?_⟩) (kg _ _ _ hgo)⟩
        obtain ⟨h2, off, _⟩ := h2
        have hw4 : L2.wipe σ2 vs = L2.wipe σ vs := by rw [w4 vs hsl, wipe_wipe]
        have offv : Off vs ρ ρ2 := fun j hj => by
          rw [off j (fun z => hj (hsl j z)), wipeE_get hj]
        refine liftB_intro mt r4 (mt _ _ _ _ _ (fun k hk H5 r5 e5 => ?_) (fun _ z => z.elim) h2)
        have back : ∀ {H6 : Hp}, Rep T X.K ⟨hide (D :: G.O) H3, D :: G.O, (D, SetTO X.prog X.w D L) :: G.fl⟩ ρ2 σ2 H6 → Rep T X.K ⟨hide G.O H1, D :: G.O, (D, SetTO X.prog X.w D L) :: G.fl⟩ ρ σ H6 := fun {H6} r6 => r3.unwipe r6 no offv hw4
        cases k with
        | false => exact ⟨ks, L, back r5, ap, pm, (fun p hp => sqT_ext r5.ext (tl3 p hp)), hk⟩
        | true =>
          have hk : we ρ2 (fun y => ∃ k : List Int, y = .tuple (k.map .int) ∧ ks.length + 1 < 64 ∧ goSt g wt we (wipeE ρ vs) rest (addI ks k) _) (fun _ => False) := hk
          refine lift_intro me r5 (me _ _ _ _ _ (fun y hy v H6 r6 e6 a6 => ?_) (fun _ z => z.elim) hk)
          obtain ⟨k, hk1, hk2, hk3⟩ := hy
          subst hk1
          have r7 := back r6
          obtain ⟨x, xs, rfl, ht', hx⟩ := a6.seq
          have ht := sqT_whole ht'
          have ex := hx.ints k
          subst ex
          have tl6 : ∀ p ∈ L, SqT X.K (hide (D :: G.O) H6) p.1 (p.2.map V.int) := fun p hp => sqT_ext r6.ext (tl3 p hp)
          have hlen : L.length = ks.length := by have := pm.length_eq; rwa [List.length_map] at this
          refine ⟨x, k, L, rfl, ht, (r6.fly _ List.mem_cons_self).2, fun p hp => sqT_whole (tl6 p hp), by rw [hlen]; exact hk2, fun L' _ c1 c2 => ?_⟩
          have eh : hide (D :: G.O) (upd H6 D (SetTO X.prog X.w D L')) = hide (D :: G.O) H6 := hide_upd List.mem_cons_self
          refine ⟨addI ks k, L', (r7.putST ap nf).1, ap, ?_, fun p hp => ?_, hk3⟩
          · unfold addI
            by_cases z : k ∈ ks
            · rw [if_pos z, c1 (pm.mem_iff.mpr z)]
              exact pm
            · rw [if_neg z]
              exact ((c2 fun y => z (pm.mem_iff.mp y)).map (fun p : Addr × List Int => p.2)).trans (List.Perm.cons k pm)
          · rw [eh]
            by_cases z : k ∈ ks
            · rw [c1 (pm.mem_iff.mpr z)] at hp
              exact tl6 p hp
            · rcases List.mem_cons.mp ((c2 fun y => z (pm.mem_iff.mp y)).mem_iff.mp hp) with e | hp
              · rw [e]; exact ht'
              · exact tl6 p hp
theorem dq_st {elt tg iter : Expr} {ifs : List Expr} {scope : Scope} {own : List (Str × Nat)} {wi : PWs} {g : GD} {wt : PWB} {we : PW} {sl : List Nat} (hu : X.A.units + 8 < cLine) (hc : X.calm = true) (hN : X.N.Nodup) (hi : DI T X W tg iter wi) (ok : BlkOk X.N X.env.scope scope own) (hsl : ∀ i ∈ sl, i ∈ own.map (·.2))
    (hg : ∀ (s : Shared) (H : Hp) (C : Addr) (cl : List (Str × Addr)) (fp : List Addr), DG T (X.blk s H scope (compEnvC scope cl C X.env) fp) sl tg g) (ht : ∀ (s : Shared) (H : Hp) (C : Addr) (cl : List (Str × Addr)) (fp : List Addr), DTs T (X.blk s H scope (compEnvC scope cl C X.env) fp) W0 ifs wt)
    (he : ∀ (s : Shared) (H : Hp) (C : Addr) (cl : List (Str × Addr)) (fp : List Addr), DE T (X.blk s H scope (compEnvC scope cl C X.env) fp) W0 elt we) (hs : ∀ x, foldedSetIterable iter X.env x = pure x := by intro _; rfl) :
    DQT T X W (.SetComp elt [⟨tg, iter, ifs, 0⟩] scope pos) (wSt wi g wt we (own.map (·.2))) := by
  have hg0 := hg X.s_0 X.H_0 0 [] []; have ht0 := ht X.s_0 X.H_0 0 [] []; have he0 := he X.s_0 X.H_0 0 [] []
  refine ⟨pe_mono (pe_sqT (wi := liftI T X.K W wi) (g := liftG T X.K sl g) (tt := liftB T X.K W0 wt) (te := lift T X.K W0 we) hu hc hN hi.pi ok (fun s H C cl fp => (hg s H C cl fp).pg) (fun s H C cl fp => (ht s H C cl fp).pt) (fun s H C cl fp => (he s H C cl fp).pe) hs) fun σ H Q q => st_imp hi.mono hg0.mono hg0.keep ht0.mono he0.mono hsl q, mono_St hi.mono hg0.mono ht0.mono he0.mono⟩
/-- len of a set comprehension of tuples -/
def wLenSt (wq : PWt) : PW := fun ρ Q E => wq ρ (fun ks => ks.length < 64 ∧ Q (.int ks.length)) E
def rLenT (T : Tb) (X : Cx) : List V → Hp → VK → Prop := fun xs H Q => ∃ (a : Addr) (L : List (Addr × List Int)), xs = [.ref a] ∧ H a = some (SetTO X.prog X.w a L) ∧ L.length < 64 ∧ Q (.int L.length) H
theorem cr_lenT : CallR X (.builtin "len") (rLenT T X) := by
  intro pins s σ0 H xs us Q I r q
  obtain ⟨a, L, rfl, ha, hl, q⟩ := q
  cases r with
  | cons r1 r2 =>
    cases r2
    cases r1
    have R0 : SetT0 X.prog X.w s.heap a L := (I.hok a _ ha).1
    obtain ⟨es, ep, t, ⟨o, ho, hex, hd⟩, rows, tab, nd, pl, ld, room, few⟩ := R0.ex
    have hn : es.size = L.length := by
      have h := congrArg List.length rows
      unfold rowsOf at h
      rwa [Array.length_toList, List.length_map] at h
    have hf : t.fits es.size = true := by
      have h1 := tab.sz
      rw [List.length_map] at h1
      unfold SetTable.fits SetTable.fill
      rw [tab.dm, Bool.and_eq_true, beq_iff_eq, decide_eq_true_eq]
      show t.place.size = es.size ∧ t.place.size + 0 ≤ t.mask
      omega
    exact call_len_set ho hex hd hf (by rw [hn] <;> omega) ⟨.int L.length, H, I.tok _, ⟨_, by rw [hn]⟩, q⟩
theorem de_lenst {wq : PWt} (hg : Gl X "len") (hm : X.mg "len" = none) (h : DQT T X W e wq) (he : starEach [e] X.env = (false, eval e X.env) :: starEach [] X.env := by rfl) : DE T X W (.Call (.Name "len" p) [e] [] pos) (wLenSt wq) :=
  ⟨pe_mono (pe_callB (cr_lenT (T := T)) hg hm (by decide +kernel : bootBuiltins "len" = some (.builtin "len")) (pa_cons h.pe pa_nil he) (by decide) (by decide) he rfl) fun σ H Q q => by
    obtain ⟨G, ρ, r, q⟩ := q
    refine ⟨G, ρ, r, h.mono _ _ _ _ _ (fun ks hk a H' r' na ap L ha pm => ?_) (fun _ z => z) q⟩
    have hlen : L.length = ks.length := by have := pm.length_eq; rwa [List.length_map] at this
    exact ⟨a, L, rfl, ha, by rw [hlen]; exact hk.1, by rw [hlen]; exact hk.2 _ _ (r.drop r' ap) (.int _)⟩, fun ρ Q Q' E E' hq he q => h.mono _ _ _ _ _ (fun ks hk => ⟨hk.1, hq _ hk.2⟩) he q⟩
end
end PL
set_option Elab.async false
set_option linter.all false
set_option maxRecDepth 100000
set_option maxHeartbeats 2000000
namespace PL
open PySem PySem.Spec PyProof.Rows L2
open LamX (ExtN Tabs TabS)
theorem u8 {k : Nat} {A : Around} (hr : Room k A) : A.units + 8 < cLine := by have := hr.un; omega
/-! ### isinstance(e, T), T a built-in type -/
def tyD : PyData → String
  | .none => "NoneType"
  | .bool _ => "bool"
  | .int _ => "int"
  | .str _ => "str"
  | .list _ => "list"
  | .tuple _ => "tuple"
  | .dict _ => "dict"
def isTy (a b : String) : Bool := a == b || (a == "bool" && b == "int")
section
variable {T : Tb} {X : Cx} {W : WX} {pos p p2 : Pos} {e a b c : Expr} {K : PySem.W.Frag} {G : Gh} {ρ ρ2 : En} {σ σ2 : L2.St} {H H' : Hp}
theorem tyX_of {v : V} {d : PyData} (h : Da K H v d) : TyX K H v (.type (tyD d)) := by
  cases h with
  | non => exact .base .non
  | bl b => exact .base (.bl b)
  | int i => exact .base (.int i)
  | str x => exact .base (.str x)
  | lst h _ => exact .base (.lst h)
  | tup h _ => exact .base (.tup h)
  | ftup h _ _ _ => exact .fTuple h
  | dk h _ => exact .base (.dK h)
  | dt h _ _ => exact .base (.dT h)
def KitT (t : String) : Prop := ∀ (K : PySem.W.Frag) (d : PyData), PySem.W.kitOne K (.type (tyD d)) (.type t) = some (isTy (tyD d) t)
theorem kit_tuple : KitT "tuple" := fun K d => by cases d <;> kernel_rfl
theorem kit_int : KitT "int" := fun K d => by cases d <;> kernel_rfl
theorem kit_bool : KitT "bool" := fun K d => by cases d <;> kernel_rfl
theorem kit_str : KitT "str" := fun K d => by cases d <;> kernel_rfl
def wIsi (t : String) (w : PW) : PW := fun ρ Q E => w ρ (fun d => Q (.bool (isTy (tyD d) t))) E
theorem de_isi {w : PW} {x : Str} {t : String} (kt : KitT t) (hb : bootBuiltins x = some (.type t)) (hg : Gl X "isinstance") (hm : X.mg "isinstance" = none) (hg2 : Gl X x) (hm2 : X.mg x = none) (he : DE T X W e w) (hn : x ≠ "__name__" := by decide) (hd : (x == ("__debug__" : Str)) = false := by decide)
    (hs : starEach [e, .Name x p2] X.env = (false, eval e X.env) :: starEach [.Name x p2] X.env := by rfl) (hs2 : starEach [.Name x p2] X.env = (false, eval (.Name x p2) X.env) :: starEach [] X.env := by rfl) (hpl : (backTo pos (starEach [.Name x p2] X.env)).any (·.1) = false := by rfl) :
    DE T X W (.Call (.Name "isinstance" p) [e, .Name x p2] [] pos) (wIsi t w) := by
  have pt : PE X (.Name x p2) (tC (.ty t)) := ⟨fun _ _ _ H _ I h => ld_blt I hg2 hm2 hb ⟨.ty t, H, I, rfl, h⟩ hn hd⟩
  refine ⟨pe_mono (pe_callB (call_isi (X := X)) hg hm (by decide +kernel : bootBuiltins "isinstance" = some (.builtin "isinstance")) (pa_cons he.pe (pa_cons pt pa_nil hs2) hs) (by decide) (by decide) hs hpl) fun σ H Q q => ?_, fun ρ Q Q' E E' hq he' q => he.mono _ _ _ _ _ (fun d hd => hq _ hd) he' q⟩
  obtain ⟨G, ρ, r, q⟩ := q
  refine ⟨G, ρ, r, he.mono _ _ _ _ _ (fun d hd v H' r' a => ?_) (fun _ z => z) q⟩
  exact ⟨v, .ty t, .type (tyD d), .type t, isTy (tyD d) t, rfl, .ty t, tyX_of a.whole, kt _ _, hd _ H' r' (.bl _)⟩
end
end PL
set_option Elab.async false
set_option linter.all false
set_option maxRecDepth 100000
set_option maxHeartbeats 2000000
namespace PL
open PySem PySem.Spec PyProof.Rows L2
open LamX (ExtN Tabs TabS)
section
variable {T : Tb} {X : Cx} {W : WX} {pos p p2 pos' pos2 : Pos} {e a b c : Expr} {es : List Expr} {st : Stmt} {K : PySem.W.Frag} {G : Gh} {ρ ρ2 : En} {σ σ2 : L2.St} {H H' : Hp}
/-! ### tuple(list), its object known -/
theorem call_tupleF : CallR X (.type "tuple") (fun xs H Q => ∃ p ys, xs = [.ref p] ∧ SqL X.K H p ys ∧ ∀ l ob, ob.dict = none → H l = none → Q (.ref l) (upd H l (.frz ob (.tup ys)))) := by
  intro pins s σ H xs us Q I r h
  obtain ⟨p, ys, rfl, hq, q⟩ := h
  obtain ⟨u, rfl, rx⟩ := vals1 r
  cases rx
  obtain ⟨its, r', pl, hz⟩ := I.list hq
  have hlen := r'.length
  refine call_tuple_list pl.isList (fun h' kp => ?_) (by simp only [List.size_toArray] <;> omega)
  have I1 : Inv X pins σ H { s with heap := h' } := I.kept (t' := s.toks) kp
  have I2 : Inv X pins σ (upd H h'.objs.size (.frz { cls := .type "tuple", data := .seq its.toArray } (.tup ys))) { s with heap := h'.push { cls := .type "tuple", data := .seq its.toArray } } :=
    I1.laid (t' := s.toks) (fun b o e => Heap.get?_push_of_some _ e) (Nat.le_refl _) (show ObjOk X.prog X.w _ _ _ (.frz _ (.tup ys)) from ⟨Heap.get?_push_size _ rfl, hz, its, r', IsTup.new _ _⟩)
  exact ⟨.ref h'.objs.size, _, I2, rfl, q _ _ rfl (I1.hok.fresh (Nat.le_refl _))⟩
/-! ### return tuple(e), the tuple plain -/
def sRetP (w : PW) : SW := fun ρ D => w ρ (fun d => match d with | .list xs => NK xs ∧ D.rp (.tuple xs) | _ => False) D.ex
theorem ds_retP {w : PW} (hg : Gl X "tuple") (hm : X.mg "tuple" = none) (h : DR T X W e w) (he : starEach [e] X.env = (false, eval e X.env) :: starEach [] X.env := by rfl) : DS T X W (.Return (some (.Call (.Name "tuple" p) [e] [] pos')) pos) (sRetP w) :=
  ⟨ps_mono (ps_ret (pe_callTy (call_tupleF (X := X)) hg hm (by decide +kernel : bootBuiltins "tuple" = some (.type "tuple")) (pa_cons h.pe pa_nil he) (by decide) (by decide) he rfl)) fun D σ H q => by
    obtain ⟨G, ρ, r, fa, q⟩ := q
    refine ⟨G, ρ, r, h.mono _ _ _ _ _ (fun d hd v H' r' t => ?_) (fun _ z => ex_out' z) q⟩
    cases d with
    | list ds =>
      obtain ⟨a, vs, rfl, ha, hx⟩ := t.da
      refine ⟨a, vs, rfl, SqL.of ha, fun l ob hob hl => ?_⟩
      obtain ⟨r2, e2, np, h2⟩ := r'.new (o := .frz ob (.tup vs)) hl
      exact hd.2 _ ρ σ _ G.O r2 ⟨l, ob, vs, rfl, h2, hob⟩ (.ftup h2 hob hd.1 (hx.ext e2))
    | _ => exact hd.elim, fun ρ D D' l q => h.mono _ _ _ _ _ (fun d hd => by cases d <;> first | exact ⟨hd.1, l.rp _ hd.2⟩ | exact hd) l.ex q⟩
/-! ### a def that returns plain tuples -/
def cOfP (N : List Str) (w : SW) : PW := fun ρ Q E => w (ρ ++ List.replicate (N.length - ρ.length) .un) { nx := fun _ => False, rt := fun _ => False, ex := E, rp := Q }
theorem mono_cOfP {N : List Str} {w : SW} (m : MonoS w) : Mono (cOfP N w) := fun ρ Q Q' E E' hq he h => m _ { nx := fun _ => False, rt := fun _ => False, ex := E, rp := Q } _ ⟨fun _ z => z, fun _ z => z, fun _ z => z, fun _ z => z, he, hq⟩ h
def spDP (T : Tb) (K : PySem.W.Frag) (n : Nat) (c : PW) : Sp := fun vs H Q E => ∃ (O : List Addr) (ρ : En), ρ.length = n ∧ Rep T K ⟨hide O H, O, flOf T.dc O H⟩ ρ (vs.map some) H ∧ (∀ s ∈ ρ, s.owned = false) ∧
  c ρ (fun d => ∀ v H', Back T O H H' → Plt (hide O H') v → Da K (hide O H') v d → Q v H') (fun x => ∀ H' cls dd, Back T O H H' → ExR K x cls dd (hide O H') → E cls dd H')
theorem fn_okP {P : Program} {w : World} {mg : Str → Option Value} {base : Heap} {x : Str} {st : Stmt} {f c : Addr} {fd : FuncData} {N ps : List Str} {k : Nat} {u : SW} (F : FunC K x st f c fd) (S : FnScope N ps (defScope st))
    (hb : ∀ (A : Around) (outer : List Env) (s : Shared) (H : Hp) (E : XK), Room k (A.deeper (envOfC x (defScope st) s.heap.objs.size f (.ref c))) →
      DSs T (cxOf (L2.CX P w) P w K mg base N x (defScope st) f (.ref c) A outer s H E) (fun cls d _ H => E cls d H) (defBody st) u) : FnOk P w K mg base (L2.CX P w) (k + 1) f fd ps (spDP T K ps.length (cOfP N u)) := by
  refine F.okX S (fun vs H Q E h => ?_) (fun A outer s H vs Q E hr h => ⟨_, (hb A outer s H E hr).ps, ?_⟩)
  · obtain ⟨O, ρ, h1, h2, _⟩ := h
    have := h2.len
    rw [List.length_map] at this
    omega
  · obtain ⟨O, ρ, h1, r, no, q⟩ := h
    have hl : ρ.length = vs.length := by have := r.len; rw [List.length_map] at this; exact this
    refine ⟨⟨hide O H, O, flOf T.dc O H⟩, ρ ++ List.replicate (N.length - ρ.length) .un, ?_, fun q hq j t hj ht e => ?_, ?_⟩
    · rw [start_eq hl]
      exact r.more _
    · exfalso
      by_cases z : j < ρ.length
      · rw [List.getElem?_append_left z] at hj
        rw [no t (List.mem_of_getElem? hj)] at ht
        cases ht
      · rw [List.getElem?_append_right (by omega), List.getElem?_replicate] at hj
        split at hj
        · cases hj; cases ht
        · cases hj
    · refine (hb A outer s H E hr).mono _ { nx := fun _ => False, rt := fun _ => False, ex := fun x => ∀ H' cls dd, Back T O H H' → ExR K x cls dd (hide O H') → E cls dd H', rp := fun d => ∀ v H', Back T O H H' → Plt (hide O H') v → Da K (hide O H') v d → Q v H' } _ ⟨fun _ z => z.elim, fun _ z => z.elim, fun _ z => z.elim, fun _ z => z.elim, fun x h ρ' σ' H' O' cls dd r' q => ?_, fun d h v ρ' σ' H' O' r' p a => ?_⟩ q
      · obtain ⟨b1, b2⟩ := r'.back r.dom
        exact h H' cls dd b1 (exR_ext b2 q)
      · obtain ⟨b1, b2⟩ := r'.back r.dom
        exact h v H' b1 (p.ext b2) (a.ext b2)
/-- a contract is also one that forgets -/
theorem spDP_sub {P : Program} {w : World} {mg : Str → Option Value} {base : Heap} {f : Addr} {fd : FuncData} {ps : List Str} {k n : Nat} {c : PW} (mc : Mono c) (F : FnOk P w K mg base (L2.CX P w) k f fd ps (spDP T K n c)) : FnOk P w K mg base (L2.CX P w) k f fd ps (spD T K n c) :=
  ⟨fun vs H Q E h => F.len vs H Q E (by
      obtain ⟨O, ρ, h1, h2, h3, h4⟩ := h
      exact ⟨O, ρ, h1, h2, h3, mc _ _ _ _ _ (fun d hd v H' b _ a => hd v H' b a) (fun _ z => z) h4⟩),
   fun A outer s H args us vs Q E hr e0 hb r h => F.run A outer s H args us vs Q E hr e0 hb r (by
      obtain ⟨O, ρ, h1, h2, h3, h4⟩ := h
      exact ⟨O, ρ, h1, h2, h3, mc _ _ _ _ _ (fun d hd v H' b _ a => hd v H' b a) (fun _ z => z) h4⟩)⟩
def liftPl (T : Tb) (K : PySem.W.Frag) (W : WX) (w : PW) : TE := fun σ H Q => ∃ G ρ, Rep T K G ρ σ H ∧ w ρ (fun d => ∀ v H', Rep T K G ρ σ H' → Plt (hide G.O H') v → Da K (hide G.O H') v d → Q v H') (exOut T K W G ρ σ)
theorem pe_callP {k n : Nat} {f : Addr} {fd : FuncData} {ps : List Str} {c : PW} {x : Str} {ws : PWp} (F : FnOk X.prog X.w X.K X.mg X.base (L2.CX X.prog X.w) k f fd ps (spDP T X.K n c)) (mc : Mono c) (hr : Room k X.A) (hg : Gl X x) (hm : X.mg x = some (.ref f)) (hk : PySem.W.keepIn X.K (.ref f) = true) (hb : Binds X.K fd ps []) (tk : Takes X W)
    (h : DP T X W (e :: es) ws) (hdb : (x == ("__debug__" : Str)) = false := by decide) (he : starEach (e :: es) X.env = (false, eval e X.env) :: starEach es X.env := by rfl) (hpl : (backTo pos (starEach es X.env)).any (·.1) = false := by rfl) :
    PE X (.Call (.Name x p) (e :: es) [] pos) (liftPl T X.K W (wCall n c ws)) ∧ Mono (wCall n c ws) :=
  ⟨pe_mono (pe_callS (E := WE W) F hr hg hm hk hb (fun σ => passAt tk σ) h.pa hdb he hpl) fun σ H Q q => by
    obtain ⟨G, ρ, r, q⟩ := q
    refine ⟨G, ρ, r, h.mono _ _ _ _ _ (fun ss hss vs H1 r1 a1 => ?_) (fun _ z => z) q⟩
    obtain ⟨r2, no⟩ := args_rep r1 a1
    exact ⟨G.O, ss, hss.1, r2, no, mc _ _ _ _ _ (fun d hd v H' bk pl a => hd v H' (r1.forth bk) pl a) (fun x hx H' cls dd bk q => hx H' cls dd (r1.forth bk) q) hss.2⟩,
   fun ρ Q Q' E E' hq he q => h.mono _ _ _ _ _ (fun ss hss => ⟨hss.1, mc _ _ _ _ _ hq he hss.2⟩) he q⟩
end
end PL
set_option Elab.async false
set_option linter.all false
set_option maxRecDepth 100000
set_option maxHeartbeats 2000000
namespace PL
open PySem PySem.Spec PyProof.Rows L2
open LamX (ExtN Tabs TabS)
/-! ### pairs, by data -/
def pairD : PyData → Option (Key × PyData)
  | .tuple [k, v] => (keyOf k).map fun key => (key, v)
  | _ => none
def pairsD : List PyData → Option (List (Key × PyData))
  | [] => some []
  | d :: r => match pairD d, pairsD r with
    | some p, some ps => some (p :: ps)
    | _, _ => none
def mergeD (kvs more : List (Key × PyData)) : List (Key × PyData) := more.foldl (fun acc p => putD acc p.1 p.2) kvs
section
variable {T : Tb} {X : Cx} {W : WX} {pos p p2 pos' pos2 apos cpos : Pos} {e a b c : Expr} {K : PySem.W.Frag} {G : Gh} {ρ ρ2 : En} {σ σ2 : L2.St} {H H' : Hp}
theorem pairD_some {d : PyData} {kv : Key × PyData} (h : pairD d = some kv) : d = .tuple [keyD kv.1, kv.2] := by
  cases d with
  | tuple xs =>
    match xs with
    | [k, v] =>
      simp only [pairD] at h
      cases e : keyOf k with
      | none => rw [e] at h; cases h
      | some key =>
        rw [e] at h
        cases h
        cases k <;> simp only [keyOf] at e <;> cases e <;> rfl
    | [] => cases h
    | [_] => cases h
    | _ :: _ :: _ :: _ => cases h
  | _ => cases h
theorem pair_da {v : V} {d : PyData} {kv : Key × PyData} (h : pairD d = some kv) (hd : Da K H v d) : ∃ (q : Addr) (w : V), v = .ref q ∧ SqT K H q [kV kv.1, w] ∧ Da K H w kv.2 := by
  have e := pairD_some h
  subst e
  have two : ∀ {xs : List V}, DaAll K H xs [keyD kv.1, kv.2] → ∃ w, xs = [kV kv.1, w] ∧ Da K H w kv.2 := fun {xs} h => by
    cases h with
    | cons h1 h2 =>
      cases h2 with
      | cons h3 h4 =>
        cases h4
        refine ⟨_, ?_, h3⟩
        rw [keyOf_da h1 (show keyOf (keyD kv.1) = some kv.1 from by cases kv.1 <;> rfl)]
  cases hd with
  | tup h1 h2 =>
    obtain ⟨w, rfl, hw⟩ := two h2
    exact ⟨_, w, rfl, .inl (.inl h1), hw⟩
  | ftup h1 _ _ h2 =>
    obtain ⟨w, rfl, hw⟩ := two h2
    exact ⟨_, w, rfl, .inl (.inr ⟨_, h1⟩), hw⟩
theorem pairs_da : ∀ {vs : List V} {ds : List PyData} {ps : List (Key × PyData)}, DaAll K H vs ds → pairsD ds = some ps → ∃ (as : List Addr) (kvs : List (Key × V)), vs = as.map V.ref ∧ Paired (fun p kv => SqT K H p [kV kv.1, kv.2]) as kvs ∧ kvs.map (·.1) = ps.map (·.1) ∧ DaAll K H (kvs.map (·.2)) (ps.map (·.2))
  | _, _, ps, .nil, e => by
    cases e
    exact ⟨[], [], rfl, .nil, rfl, .nil⟩
  | _, _, ps, .cons (d := d) (ds := ds) h t, e => by
    simp only [pairsD] at e
    split at e
    · rename_i kv qs e1 e2
      cases e
      obtain ⟨as, kvs, rfl, p2, p3, p4⟩ := pairs_da t e2
      obtain ⟨q, w, rfl, s1, s2⟩ := pair_da e1 h
      exact ⟨q :: as, (kv.1, w) :: kvs, rfl, .cons s1 p2, by simp only [List.map_cons, p3], .cons s2 p4⟩
    · cases e
theorem merge_da : ∀ {more : List (Key × V)} {mds : List (Key × PyData)} {kvs : List (Key × V)} {kds : List (Key × PyData)}, more.map (·.1) = mds.map (·.1) → DaAll K H (more.map (·.2)) (mds.map (·.2)) → kvs.map (·.1) = kds.map (·.1) → DaAll K H (kvs.map (·.2)) (kds.map (·.2)) →
    (mergeK kvs more).map (·.1) = (mergeD kds mds).map (·.1) ∧ DaAll K H ((mergeK kvs more).map (·.2)) ((mergeD kds mds).map (·.2))
  | [], [], _, _, _, _, e, h => ⟨e, h⟩
  | [], _ :: _, _, _, e, _, _, _ => by cases e
  | _ :: _, [], _, _, e, _, _, _ => by cases e
  | p :: r, q :: t, _, _, e, h, e2, h2 => by
    injection e with e1 e3
    cases h with
    | cons h3 h4 =>
      have e1 : p.1 = q.1 := e1
      have := put_da (k := q.1) h3 e2 h2
      rw [← e1] at this
      have this' : _ ∧ _ := this
      obtain ⟨g1, g2⟩ := this'
      show (mergeK (putK _ p.1 p.2) r).map (·.1) = (mergeD (putD _ q.1 q.2) t).map (·.1) ∧ DaAll K H ((mergeK (putK _ p.1 p.2) r).map (·.2)) ((mergeD (putD _ q.1 q.2) t).map (·.2))
      rw [← e1]
      exact merge_da e3 h4 g1 g2
def dictD (ps : List (Key × PyData)) : PyData := .dict ((mergeD [] ps).map fun p => (keyD p.1, p.2))
theorem da_dict {a : Addr} {kvs : List (Key × V)} {ps : List (Key × PyData)} (h : H a = some (.dK kvs)) (e : kvs.map (·.1) = ps.map (·.1)) (hd : DaAll K H (kvs.map (·.2)) (ps.map (·.2))) : Da K H (.ref a) (.dict (ps.map fun p => (keyD p.1, p.2))) := by
  have := Da.dk h hd
  have e1 : (kvs.map fun p => keyD p.1) = ps.map fun p => keyD p.1 := by
    have := congrArg (List.map keyD) e
    rw [List.map_map, List.map_map] at this
    exact this
  rw [e1] at this
  have e2 : ∀ ps : List (Key × PyData), (ps.map fun p => keyD p.1).zip (ps.map (·.2)) = ps.map fun p => (keyD p.1, p.2) := fun ps => by
    induction ps with
    | nil => rfl
    | cons p r ih => simp only [List.map_cons, List.zip_cons_cons, ih]
  rwa [e2] at this
/-! ### dict(xs), xs a tuple without a dict of its own -/
theorem call_dictF (hcalm : X.calm = true) : CallR X (.type "dict") (fun xs H Q => ∃ (a : Addr) (ob : Obj) (ps : List Addr) (kvs : List (Key × V)), xs = [.ref a] ∧ H a = some (.frz ob (.tup (ps.map V.ref))) ∧ ob.dict = none ∧ Paired (fun p kv => SqT X.K H p [kV kv.1, kv.2]) ps kvs ∧
    ∀ p, H p = none → Q (.ref p) (upd H p (.dK (mergeK [] kvs)))) := by
  intro pins s σ H xs us Q I r q
  obtain ⟨a, ob, ps, kvs, ex, hq, hob, hp, q⟩ := q
  subst ex
  obtain ⟨u, eu, rx⟩ := vals1 r
  subst eu
  cases rx
  obtain ⟨h0, hz, its, rv, hi⟩ := (show ObjOk X.prog X.w H s.heap a (.frz ob (.tup (ps.map V.ref))) from I.hok a _ hq)
  have ei := refs_at rv
  subst ei
  obtain ⟨prs, rel, hl, hpr⟩ := pairs_of I hp
  obtain ⟨o, ho, hc, n, hdat⟩ := hi
  rw [h0] at ho
  cases ho
  have hx : H a ≠ none := by rw [hq]; exact fun z => by cases z
  have pg : ∀ (j : Nat) (b : Addr), ps[j]? = some b → ∃ kv, prs[j]? = some kv := fun j b e => by
    have hj : j < prs.length := by rw [hl]; exact (List.getElem?_eq_some_iff.mp e).1
    exact ⟨prs[j], List.getElem?_eq_getElem hj⟩
  have keyOfP : ∀ j : Nat, ∃ T : Addr, ∀ kv, prs[j]? = some kv → ∃ u : Value, ps[j]? = some T ∧ IsTup s.heap T #[u, kv.2] ∧ keyIs kv.1 u = true := fun j => by
    cases e : prs[j]? with
    | none => exact ⟨0, fun kv z => by cases z⟩
    | some kv =>
      obtain ⟨b, u, e1, e2, e3⟩ := hpr j kv e
      exact ⟨b, fun kv' z => by cases z; exact ⟨u, e1, e2, e3⟩⟩
  obtain ⟨Ts, hTs⟩ := Classical.axiomOfChoice keyOfP
  have keyOfU : ∀ j : Nat, ∃ u : Value, ∀ kv, prs[j]? = some kv → IsTup s.heap (Ts j) #[u, kv.2] ∧ keyIs kv.1 u = true := fun j => by
    cases e : prs[j]? with
    | none => exact ⟨.none, fun kv z => by cases z⟩
    | some kv =>
      obtain ⟨u, _, e2, e3⟩ := hTs j kv e
      exact ⟨u, fun kv' z => by cases z; exact ⟨e2, e3⟩⟩
  obtain ⟨Us, hUs⟩ := Classical.axiomOfChoice keyOfU
  have hpl : prs.length ≤ sizeLine := by rw [hl]; rw [List.length_map] at hz; exact hz
  have gl : ∀ (j : Nat) (k v : Value), ((List.range prs.length).map fun j => (Us j, (prs[j]?.map (·.2)).getD .none))[j]? = some (k, v) → ∃ kv, prs[j]? = some kv ∧ k = Us j ∧ v = kv.2 := fun j k v e => by
    rw [List.getElem?_map] at e
    by_cases hj : j < prs.length
    · rw [List.getElem?_range hj] at e
      have e' : (Us j, (prs[j]?.map (·.2)).getD .none) = (k, v) := Option.some.inj e
      rw [List.getElem?_eq_getElem hj] at e'
      cases e'
      exact ⟨_, List.getElem?_eq_getElem hj, rfl, rfl⟩
    · rw [List.getElem?_eq_none (by rw [List.length_range]; omega)] at e
      cases e
  have hll : ((List.range prs.length).map fun j => (Us j, (prs[j]?.map (·.2)).getD .none)).length = prs.length := by rw [List.length_map, List.length_range]
  refine PySem.call_dict_pairs (knd := mixKind X.prog X.w) (kvs := prs) (PySem.PairArg.tuple a (ps.map Value.ref).toArray Ts ((List.range prs.length).map fun j => (Us j, (prs[j]?.map (·.2)).getD .none))) (I.ok.hd hcalm) ⟨⟨_, n, h0, hc, hob, hdat⟩, ?_, fun j k v e => ?_⟩ ⟨hll.symm, fun i k v e => ?_⟩ (by rw [hll]; exact hpl) fun h' tk hd' k => ?_
  · rw [hll, hl, List.size_toArray, List.length_map]
  · obtain ⟨kv, e1, rfl, rfl⟩ := gl j k v e
    obtain ⟨u, e2, _, _⟩ := hTs j kv e1
    obtain ⟨g1, g2⟩ := hUs j kv e1
    exact ⟨by rw [List.getElem?_toArray, List.getElem?_map, e2]; rfl, .inl g1⟩
  · obtain ⟨kv, e1, rfl, rfl⟩ := gl i k v e
    exact ⟨kv.1, e1, (hUs i kv e1).2⟩
  · have hm : (s.heap.objs.size == sysModules) = false := beq_eq_false_iff_ne.mpr (Nat.ne_of_gt I.big)
    have hlen : (mergeK [] kvs).length ≤ sizeLine := by
      refine Nat.le_trans (length_mergeK kvs []) ?_
      rw [List.length_nil, Nat.zero_add, rel.length]
      exact hpl
    exact ⟨.ref s.heap.objs.size, upd H s.heap.objs.size (.dK (mergeK [] kvs)), I.laid (t' := tk) (fun b u e => k b u (by simp) e) (Nat.le_refl _) (show ObjOk X.prog X.w _ _ _ (.dK (mergeK [] kvs)) from ⟨hlen, hm, merged [] prs, KV.merge rel .nil, hd'⟩), rfl, q _ (I.hok.fresh (Nat.le_refl _))⟩
/-- dict(f(..)), f's answer a plain tuple -/
def wDictP (w : PW) : PW := fun ρ Q E => w ρ (fun d => match d with
  | .tuple ds => match pairsD ds with
    | some ps => Q (dictD ps)
    | none => False
  | .list ds => match pairsD ds with
    | some ps => Q (dictD ps)
    | none => False
  | _ => False) E
theorem mono_dictP {w : PW} (m : Mono w) : Mono (wDictP w) := fun ρ Q Q' E E' hq he q => m _ _ _ _ _ (fun d hd => by
  cases d <;> first | exact hd.elim | (dsimp only at hd ⊢; split at hd <;> first | exact hq _ hd | exact hd.elim)) he q
theorem de_dictP {w : PW} (hc : X.calm = true) (hg : Gl X "dict") (hm : X.mg "dict" = none) (h : PE X e (liftPl T X.K W w)) (mw : Mono w) (he : starEach [e] X.env = (false, eval e X.env) :: starEach [] X.env := by rfl) :
    DE T X W (.Call (.Name "dict" p) [e] [] pos) (wDictP w) :=
  ⟨pe_mono (pe_callTy (call_dictF (X := X) hc) hg hm (by decide +kernel : bootBuiltins "dict" = some (.type "dict")) (pa_cons h pa_nil he) (by decide) (by decide) he rfl) fun σ H Q q => by
    obtain ⟨G, ρ, r, q⟩ := q
    refine ⟨G, ρ, r, mw _ _ _ _ _ (fun d hd v H' r' pt a => ?_) (fun _ z => z) q⟩
    obtain ⟨b, ob, xs, rfl, hx, hob⟩ := pt
    have key : ∀ {ds : List PyData} {ps : List (Key × PyData)}, DaAll X.K (hide G.O H') xs ds → pairsD ds = some ps → (∀ v H', Rep T X.K G ρ σ H' → Da X.K (hide G.O H') v (dictD ps) → Q v H') →
        ∃ (a : Addr) (ob : Obj) (ps : List Addr) (kvs : List (Key × V)), [V.ref b] = [.ref a] ∧ H' a = some (.frz ob (.tup (ps.map V.ref))) ∧ ob.dict = none ∧ Paired (fun p kv => SqT X.K H' p [kV kv.1, kv.2]) ps kvs ∧ ∀ p, H' p = none → Q (.ref p) (upd H' p (.dK (mergeK [] kvs))) := fun hds hp qq => by
      obtain ⟨as, kvs, e1, e2, e3, e4⟩ := pairs_da hds hp
      subst e1
      refine ⟨b, ob, as, kvs, rfl, (hide_some hx).2, hob, ?_, fun p hp => ?_⟩
      · exact e2.mono fun _ _ z => sqT_ext (ext_sub (O' := []) (fun _ z => by cases z)) z |> fun z => by rwa [hide_nil] at z
      · obtain ⟨r2, x2, np, h2⟩ := r'.new (o := .dK (mergeK [] kvs)) hp
        obtain ⟨g1, g2⟩ := merge_da (kvs := []) (kds := []) e3 e4 rfl .nil
        exact qq _ _ r2 (da_dict h2 g1 (g2.ext x2))
    cases a with
    | tup h1 h2 => rw [h1] at hx; cases hx
    | ftup h1 h2 h3 h4 =>
      rw [h1] at hx
      cases hx
      dsimp only at hd
      split at hd
      · rename_i ps hp
        exact key h4 hp hd
      · exact hd.elim
    | lst h1 h2 => rw [h1] at hx; cases hx
    | dk h1 h2 => rw [h1] at hx; cases hx
    | dt h1 h2 h3 => exact (by rw [h1] at hx; cases hx), mono_dictP mw⟩
/-- dict(xs), xs a list of pairs -/
def wOnlyL (w : PW) : PW := fun ρ Q E => w ρ (fun d => match d with | .list ds => Q (.list ds) | _ => False) E
theorem de_dictL {w : PW} (hc : X.calm = true) (hg : Gl X "dict") (hm : X.mg "dict" = none) (h : DR T X W e w) (he : starEach [e] X.env = (false, eval e X.env) :: starEach [] X.env := by rfl) :
    DE T X W (.Call (.Name "dict" p) [e] [] pos) (wDictP (wOnlyL w)) :=
  ⟨pe_mono (pe_callTy (call_dictP (X := X) hc) hg hm (by decide +kernel : bootBuiltins "dict" = some (.type "dict")) (pa_cons h.pe pa_nil he) (by decide) (by decide) he rfl) fun σ H Q q => by
    obtain ⟨G, ρ, r, q⟩ := q
    refine ⟨G, ρ, r, h.mono _ _ _ _ _ (fun d hd v H' r' t => ?_) (fun _ z => z) q⟩
    cases d with
    | list ds =>
      obtain ⟨a, vs, rfl, ha, hx⟩ := t.da
      dsimp only at hd
      split at hd
      · rename_i ps hp
        obtain ⟨as, kvs, e1, e2, e3, e4⟩ := pairs_da hx hp
        subst e1
        refine ⟨a, as, kvs, rfl, SqL.of ha, ?_, fun p hp => ?_⟩
        · exact e2.mono fun _ _ z => sqT_ext (ext_sub (O' := []) (fun _ z => by cases z)) z |> fun z => by rwa [hide_nil] at z
        · obtain ⟨r2, x2, np, h2⟩ := r'.new (o := .dK (mergeK [] kvs)) hp
          obtain ⟨g1, g2⟩ := merge_da (kvs := []) (kds := []) e3 e4 rfl .nil
          exact hd _ _ r2 (da_dict h2 g1 (g2.ext x2))
      · exact hd.elim
    | _ => exact hd.elim, mono_dictP (w := wOnlyL w) fun ρ Q Q' E E' hq he q => h.mono _ _ _ _ _ (fun d hd => by cases d <;> first | exact hd.elim | exact hq _ hd) he q⟩
end
end PL
set_option Elab.async false
set_option linter.all false
set_option maxRecDepth 100000
set_option maxHeartbeats 2000000
namespace PL
open PySem PySem.Spec PyProof.Rows L2
open LamX (ExtN Tabs TabS)
/-! ### sorted(d.items()) -/
def leafD : PyData → Bool
  | .int _ => true
  | .str _ => true
  | .bool _ => true
  | .none => true
  | _ => false
def itemD (p : Key × PyData) : PyData := .tuple [keyD p.1, p.2]
section
variable {T : Tb} {X : Cx} {W : WX} {pos p p2 pos' pos2 apos cpos : Pos} {e a b c : Expr} {K : PySem.W.Frag} {G : Gh} {ρ ρ2 : En} {σ σ2 : L2.St} {H H' : Hp}
def rItemsK : V → Hp → VK → Prop := fun x H Q => ∃ (d : Addr) (kvs : List (Key × V)), x = .ref d ∧ H d = some (.dK kvs) ∧ ∀ p, H p = none → Q (.ref p) (upd H p (L2.DX.itemsO p d))
theorem pe_itemsK {te : TE} (he : PE X e te) (hbase : attributeBase e "items" X.env (eval e X.env) = eval e X.env := by rfl) (hline : (apos.endLine == cpos.line) = true := by rfl) :
    PE X (.Call (.Attribute e "items" apos) [] [] cpos) (fun σ H Q => te σ H fun x H1 => rItemsK x H1 Q) := by
  refine ⟨fun pins s σ H Q I hq => ?_⟩
  refine wpAny_Call_method (T := "dict") (id := "dict.items") hbase rfl hline F.plainAttrs_dict F.slot_dict_items F.type_dict_items (thn (he.run pins s σ H _ I hq) fun u s1 ⟨x, H1, I1, rx, d, kvs, ex, hd, q⟩ => ?_)
  subst ex
  obtain rfl : u = Value.ref d := rx
  obtain ⟨hz, hs0, vs, kv, hdo⟩ := I1.hok d _ hd
  refine ⟨hdo.typeIs, hdo.mapOf.noDict, ?_⟩
  show wpAny _ _ (callWith cpos (.builtin "dict.items") [.ref d] [] []) _ X.xe s1
  refine method_meetsIn F.slot_dict_items F.entry_dict_items rfl (PySem.evalArgs_none ⟨rfl, hdo.typeIs, F.args_dict_items_1 _, _, meets_dict_items (mixKind X.prog X.w) d hs0, ⟨vs, hdo⟩, ?_⟩)
  have hf : H1 s1.heap.objs.size = none := I1.hok.fresh (Nat.le_refl _)
  exact ⟨.ref s1.heap.objs.size, upd H1 s1.heap.objs.size (L2.DX.itemsO s1.heap.objs.size d), I1.laid (t' := s1.toks) (fun b u e => Heap.get?_push_of_some _ e) (Nat.le_refl _) (L2.DX.itemsO_ok (Heap.get?_push_size _ rfl)), rfl, q _ hf⟩
/-- rows: what the pairs read as -/
def rSi (T : Tb) (X : Cx) : List V → Hp → VK → Prop := fun xs H Q => ∃ (p d : Addr) (kvs : List (Key × V)) (ps : List (Key × PyData)) (G : Gh) (ρ : En) (σ : L2.St), xs = [.ref p] ∧ Rep T X.K G ρ σ H ∧ H p = some (L2.DX.itemsO p d) ∧ H d = some (.dK kvs) ∧ kvs.map (·.1) = ps.map (·.1) ∧ DaAll X.K (hide G.O H) (kvs.map (·.2)) (ps.map (·.2)) ∧
  (∀ p ∈ ps, leafD p.2 = true) ∧ PySem.W.AllAlike (ps.map itemD) ∧ PySem.W.Sortable (ps.map itemD) ∧
  ∀ l vs H', Rep T X.K ⟨G.Hb, l :: G.O, G.fl⟩ ρ σ H' → l ∉ G.O → Apt ρ σ l → H' l = some (.lst vs) → DaAll X.K (hide (l :: G.O) H') vs ((ps.map itemD).mergeSort (PySem.W.dataLe false id)) → Q (.ref l) H'
theorem leaf_reads {h : Heap} {v : V} {u : Value} {d : PyData} (hd : Da K H v d) (r : RelV v u) (l : leafD d = true) : Reads h u d [] := by
  cases hd with
  | non => cases r; exact Reads.none
  | bl b => cases r; exact Reads.bool b
  | int i => obtain ⟨t, rfl⟩ := r; exact Reads.int i t
  | str x => obtain ⟨t, rfl⟩ := r; exact Reads.str x t
  | _ => cases l
theorem key_reads {P : Program} {w : World} {h : Heap} {k : Key} {u : Value} (r : (mixKind P w).is k u = true) : Reads h u (keyD k) [] := by
  rcases keyIs_shape (show keyIs k u = true from r) with ⟨i, t, rfl, rfl⟩ | ⟨y, t, rfl, rfl⟩
  · exact Reads.int i t
  · exact Reads.str y t
theorem leaf_depth {d : PyData} (l : leafD d = true) : d.depth = 0 := by
  cases d <;> first | rfl | cases l
theorem eachOf {R : Value → PyData → Prop} : ∀ (as : List Addr) (ds : List PyData), as.length = ds.length → (∀ (j : Nat) (b : Addr) (d : PyData), as[j]? = some b → ds[j]? = some d → R (.ref b) d) → PySem.W.EachIs R (as.map Value.ref) ds
  | [], [], _, _ => .nil
  | [], _ :: _, h, _ => by cases h
  | _ :: _, [], h, _ => by cases h
  | a :: as, d :: ds, h, f => .cons (f 0 a d rfl rfl) (eachOf as ds (Nat.succ.inj h) fun j b d h1 h2 => f (j + 1) b d h1 h2)
theorem cr_si {k : Nat} (hc : X.calm = true) (hr : Room k X.A) : CallR X (.builtin "sorted") (rSi T X) := by
  intro pins s σ0 H xs us Q I rx q
  obtain ⟨p, d, kvs, ps, G, ρ, σ, rfl, r, hp, hd, hk, hda, hlf, al, so, q⟩ := q
  have hu := hr.un
  obtain rfl := Vals.ref1 rx
  have view : s.heap.IsItemsView p d := (show ObjOk X.prog X.w H s.heap p (L2.DX.itemsO p d) from I.hok p _ hp).1
  obtain ⟨hz, hs0, vs, kv, hdo⟩ := (show ObjOk X.prog X.w H s.heap d (.dK kvs) from I.hok d _ hd)
  obtain ⟨o, es, ep, ho, hx, hdat, hks, hpa, _⟩ := hdo
  have les : es.size = vs.length := by rw [← Array.length_toList]; exact hpa.length
  have lk : kvs.length = vs.length := Paired.length kv
  have lp : kvs.length = ps.length := length_of_map hk
  have hh : X.A.handled = none := I.ok.hd hc
  refine DT.sortedI (es := es) (ep := ep) hh view ⟨o, ho, hx, hdat⟩ (by omega) fun h' tk as hkp hlt0 hl hG => ?_
  have hlt : s.heap.objs.size ≤ h'.objs.size := Nat.le_of_lt hlt0
  have nd : as.Nodup := List.Pairwise.imp (fun h => Nat.ne_of_lt h) hG.rise
  have pr : ∀ (j : Nat) (b : Addr), as[j]? = some b → ∃ (kw : Key × V) (pd : Key × PyData) (key x : Value), kvs[j]? = some kw ∧ ps[j]? = some pd ∧ kw.1 = pd.1 ∧ Da X.K (hide G.O H) kw.2 pd.2 ∧ leafD pd.2 = true ∧ RelV (kV kw.1) key ∧ (mixKind X.prog X.w).is pd.1 key = true ∧ RelV kw.2 x ∧ h'.get? b = some { cls := .type "tuple", data := .seq #[key, x] } := by
    intro j b hj
    obtain ⟨en, he, e3⟩ := hG.pairs j b hj
    have hjl : j < kvs.length := by rw [lk, ← les]; exact (Array.getElem?_eq_some_iff.mp he).1
    obtain ⟨qv, g1, g2, g3⟩ := LiI.paired_get kv (List.getElem?_eq_getElem hjl)
    obtain ⟨e2, ex⟩ := hpa.get? (by rw [Array.getElem?_toList]; exact he) g1
    have hjp : j < ps.length := by rw [← lp]; exact hjl
    have ek : (kvs[j]).1 = (ps[j]).1 := by
      have := congrArg (fun l => l[j]?) hk
      simp only [List.getElem?_map, List.getElem?_eq_getElem hjl, List.getElem?_eq_getElem hjp] at this
      exact Option.some.inj this
    obtain ⟨dd, h1, h2⟩ := hda.get (i := j) (v := (kvs[j]).2) (by rw [List.getElem?_map, List.getElem?_eq_getElem hjl]; rfl)
    rw [List.getElem?_map, List.getElem?_eq_getElem hjp] at h1
    cases h1
    refine ⟨kvs[j], ps[j], en.key, en.val, List.getElem?_eq_getElem hjl, List.getElem?_eq_getElem hjp, ek, h2, hlf _ (List.getElem_mem hjp), ?_, ?_, by rw [ex]; exact g3, e3⟩
    · rw [g2]; exact relV_key (show keyIs _ en.key = true from e2)
    · rw [← ek, g2]; exact e2
  have lak : as.length = (ps.map itemD).length := by rw [List.length_map]; omega
  have hL : (as.map Value.ref).length ≤ sizeLine := by rw [List.length_map]; omega
  have hoL : (h'.push (seqObj "list" (as.map Value.ref).toArray 0)).get? h'.objs.size = some (seqObj "list" (as.map Value.ref).toArray 0) := Heap.get?_push_size _ rfl
  have kF : ∀ b o out, b ≠ h'.objs.size → h'.get? b = some o → (sortedHeap (h'.push (seqObj "list" (as.map Value.ref).toArray 0)) h'.objs.size (as.map Value.ref) out).get? b = some o := fun b o out hb e => by
    rw [sortedHeap_old hb (by rw [size_push']; exact Nat.lt_succ_of_lt (Heap.lt_size e))]
    exact Heap.get?_push_of_some _ e
  refine PySem.W.list_sort_data (enc := id) (bs := ps.map itemD) (R := fun u d => ∃ (j : Nat) (b : Addr) (pd : Key × PyData), u = .ref b ∧ as[j]? = some b ∧ ps[j]? = some pd ∧ d = itemD pd) hoL
    (eachOf as _ lak fun j b dd h1 h2 => ?_) (eachOf as _ lak fun j b dd h1 h2 => ?_) (by rw [List.map_id]; exact al) (by rw [List.map_id]; exact so) (by rw [← lak]; rw [List.length_map] at hL; exact hL) (fun b hb => ?_) fun out hlo eo => ?_
  · rw [List.getElem?_map] at h2
    cases hp2 : ps[j]? with
    | none => rw [hp2] at h2; cases h2
    | some pd => rw [hp2] at h2; cases h2; exact ⟨j, b, pd, rfl, h1, hp2, rfl⟩
  · obtain ⟨kw, pd, key, x, e1, e2, e3, e4, e5, e6, e7, e8, e9⟩ := pr j b h1
    rw [List.getElem?_map, e2] at h2
    cases h2
    refine ⟨[] ++ ([] ++ []), ?_, by simp⟩
    exact Reads.tuple (Heap.get?_push_of_some _ e9) rfl rfl (ReadsAll.cons (key_reads e7) (ReadsAll.cons (leaf_reads e4 e8 e5) ReadsAll.nil))
  · obtain ⟨pd, hpd, rfl⟩ := List.mem_map.mp hb
    have h0 : (keyD pd.1).depth = 0 := by cases pd.1 <;> rfl
    have h1 := leaf_depth (hlf _ hpd)
    show X.A.units + 1 + 1 + (itemD pd).depth < _
    have : (itemD pd).depth ≤ 2 := by
      simp only [itemD, PyData.depth, PyData.depthAll, h0, h1]
      decide
    omega
  · obtain ⟨ce, hce⟩ := sortedHeap_at (vs := as.map Value.ref) (out := out.toArray) hoL
    have ne0 : ∀ b o, h'.get? b = some o → b ≠ h'.objs.size := fun b o e => Nat.ne_of_lt (Heap.lt_size e)
    have kS : ∀ b o, s.heap.get? b = some o → (sortedHeap (h'.push (seqObj "list" (as.map Value.ref).toArray 0)) h'.objs.size (as.map Value.ref) out.toArray).get? b = some o := fun b o e => kF b o _ (ne0 _ _ (hkp b o e)) (hkp b o e)
    generalize hF : sortedHeap (h'.push (seqObj "list" (as.map Value.ref).toArray 0)) h'.objs.size (as.map Value.ref) out.toArray = hf at hce kS
    have kF' : ∀ b o, h'.get? b = some o → hf.get? b = some o := fun b o e => by rw [← hF]; exact kF b o _ (ne0 _ _ e) e
    have I1 : Inv X pins σ0 H { s with heap := hf, toks := tk } := I.kept (t' := tk) kS
    have hn0 : H h'.objs.size = none := I.hok.fresh hlt
    have outB : ∀ {us : List Value} {ds : List PyData}, PySem.W.EachIs (fun u d => ∃ (j : Nat) (b : Addr) (pd : Key × PyData), u = .ref b ∧ as[j]? = some b ∧ ps[j]? = some pd ∧ d = itemD pd) us ds → ∃ bs : List Addr, us = bs.map Value.ref ∧ PySem.W.EachIs (fun b d => ∃ (j : Nat) (pd : Key × PyData), as[j]? = some b ∧ ps[j]? = some pd ∧ d = itemD pd) bs ds := fun {us ds} h => by
      induction h with
      | nil => exact ⟨[], rfl, .nil⟩
      | cons h t ih =>
        obtain ⟨j, b, pd, rfl, h1, h2, rfl⟩ := h
        obtain ⟨bs, w1, w2⟩ := ih
        exact ⟨b :: bs, by rw [w1]; rfl, .cons ⟨j, pd, h1, h2, rfl⟩ w2⟩
    obtain ⟨bs, eout, eb⟩ := outB eo
    have hlen : (bs.map V.ref).length ≤ sizeLine := by
      have := congrArg List.length eout
      rw [List.length_map] at this
      rw [List.length_map, ← this, hlo, ← lak]; rw [List.length_map] at hL; exact hL
    have I2 : Inv X pins σ0 (upd H h'.objs.size (.lst (bs.map V.ref))) { s with heap := hf, toks := tk } :=
      I1.take (h' := hf) (t' := tk) (fun b ob _ e => e) (I.fpOk hlt hn0) ⟨hlen, out, ce, by rw [eout]; exact LiI.vals_refs bs, hce⟩
    -- the tuples are tracked
    obtain ⟨H2, I3, g, qt⟩ := L2.DX.takeT (h' := hf) (tk := tk) (P := fun b vs => ∃ (j : Nat) (kw : Key × V), as[j]? = some b ∧ kvs[j]? = some kw ∧ vs = [kV kw.1, kw.2]) I as _ I2 nd fun b hb => by
      obtain ⟨j, hj⟩ := List.mem_iff_getElem?.mp hb
      obtain ⟨kw, pd, key, x, e1, e2, e3, e4, e5, e6, e7, e8, e9⟩ := pr j b hj
      have hbl : s.heap.objs.size ≤ b := Nat.le_of_lt (hG.above b hb)
      exact ⟨hbl, by rw [upd_ne (ne0 _ _ e9)]; exact I.hok.fresh hbl, [kV kw.1, kw.2], ⟨j, kw, hj, e1, rfl⟩, fun H3 => ⟨(by rw [sizeLine_eq]; show 2 ≤ 16777216; omega), [key, x], .cons e6 (.cons e8 .nil), ⟨_, kF' _ _ e9, rfl, 0, rfl⟩⟩⟩
    have hS : H2 h'.objs.size = some (.lst (bs.map V.ref)) := g _ _ upd_same
    let H3 : Hp := fun b => if b = h'.objs.size then none else H2 b
    have n3 : H3 h'.objs.size = none := if_pos rfl
    have o3 : ∀ b, b ≠ h'.objs.size → H3 b = H2 b := fun b hb => if_neg hb
    have e3 : H2 = upd H3 h'.objs.size (.lst (bs.map V.ref)) := by
      funext b
      by_cases hb : b = h'.objs.size
      · subst hb; rw [upd_same]; exact hS
      · rw [upd_ne hb, o3 b hb]
    have g3 : ∀ b o, H b = some o → H3 b = some o := fun b o e => by
      have hb : b ≠ h'.objs.size := fun z => by rw [z, hn0] at e; cases e
      rw [o3 b hb]
      exact g b o (by rw [upd_ne hb]; exact e)
    have r2 : Rep T X.K G ρ σ H3 := r.alloc g3
    have e2 : ExtN (hide G.O H) (hide G.O H3) := ext_hide fun b o _ h _ => g3 b o h
    have atB : ∀ (j : Nat) (b : Addr) (pd : Key × PyData), as[j]? = some b → ps[j]? = some pd → Da X.K (hide G.O H3) (.ref b) (itemD pd) := fun j b pd h1 h2 => by
      obtain ⟨kw, pd', key, x, e1, e2', e3, e4, e5, e6, e7, e8, e9⟩ := pr j b h1
      rw [h2] at e2'
      cases e2'
      obtain ⟨vs', ⟨j', kw', h3, h4, rfl⟩, h5⟩ := qt b (List.mem_of_getElem? h1)
      have ej : j = j' := (List.getElem?_inj (List.getElem?_eq_some_iff.mp h1).1 nd).mp (h1.trans h3.symm)
      subst ej
      rw [e1] at h4
      cases h4
      have hb : b ∉ G.O := fun z => by
        obtain ⟨o, ho, _⟩ := r.dom b z
        have := (I.hok.fresh (Nat.le_of_lt (hG.above b (List.mem_of_getElem? h1))) : H b = none)
        rw [this] at ho
        cases ho
      refine .tup (by rw [hide_out hb, o3 b (ne0 _ _ e9)]; exact h5) (.cons ?_ (.cons (e4.ext e2) .nil))
      rw [e3]
      cases pd.1 with
      | inl i => exact .int i
      | inr y => exact .str y
    have outV : ∀ {bs : List Addr} {ds : List PyData}, PySem.W.EachIs (fun b d => ∃ (j : Nat) (pd : Key × PyData), as[j]? = some b ∧ ps[j]? = some pd ∧ d = itemD pd) bs ds → DaAll X.K (hide G.O H3) (bs.map V.ref) ds := fun {bs ds} h => by
      induction h with
      | nil => exact .nil
      | cons h t ih =>
        obtain ⟨j, pd, h1, h2, rfl⟩ := h
        exact .cons (atB j _ pd h1 h2) ih
    obtain ⟨q1, q2, q3, q4, q5⟩ := r2.newL n3 (outV eb)
    rw [← e3] at q1 q4 q5
    exact ⟨.ref _, H2, I3, rfl, q _ _ _ q1 q2 q3 q4 q5⟩
/-- sorted(d.items()), d ours -/
def wSortIt (i : Nat) : PW := fun ρ Q E => match ρ[i]? with
  | some (.ok ps) => (∀ p ∈ ps, leafD p.2 = true) ∧ PySem.W.AllAlike (ps.map itemD) ∧ PySem.W.Sortable (ps.map itemD) ∧ Q (.list ((ps.map itemD).mergeSort (PySem.W.dataLe false id)))
  | _ => False
theorem df_sortit {k i : Nat} (hc : X.calm = true) (hr : Room k X.A) (hg : Gl X "sorted") (hm : X.mg "sorted" = none) (ho : PE X e (tVar i)) (hbase : attributeBase e "items" X.env (eval e X.env) = eval e X.env := by rfl) (hline : (apos.endLine == cpos.line) = true := by rfl)
    (he : starEach [.Call (.Attribute e "items" apos) [] [] cpos] X.env = (false, eval (.Call (.Attribute e "items" apos) [] [] cpos) X.env) :: starEach [] X.env := by rfl) :
    DF T X W (.Call (.Name "sorted" p) [.Call (.Attribute e "items" apos) [] [] cpos] [] pos) (wSortIt i) :=
  ⟨pe_mono (pe_callB (cr_si (T := T) hc hr) hg hm (by decide +kernel : bootBuiltins "sorted" = some (.builtin "sorted")) (pa_cons (pe_itemsK ho hbase hline) pa_nil he) (by decide) (by decide) he rfl) fun σ H Q q => by
    obtain ⟨G, ρ, r, q⟩ := q
    unfold wSortIt at q
    split at q
    · rename_i ps hd
      obtain ⟨u, h1, d, vs, rfl, h3, h4, h5, h6⟩ := r.slot i _ hd
      obtain ⟨q1, q2, q3, q⟩ := q
      refine ⟨_, h1, d, vs, rfl, h4, fun p hp => ?_⟩
      obtain ⟨r2, x2, np, h2⟩ := r.new (o := L2.DX.itemsO p d) hp
      have hpd : p ≠ d := fun z => by rw [z, h4] at hp; cases hp
      exact ⟨p, d, vs, ps, G, ρ, σ, rfl, r2, upd_same, by rw [upd_ne (Ne.symm hpd)]; exact h4, h5, h6.ext x2, q1, q2, q3, fun l ws H' r' na ap h7 h8 => q l ws _ H' rfl r' na ap h7 h8⟩
    · exact q.elim,
   fun ρ Q Q' E E' hq he q => by
    unfold wSortIt at q ⊢
    split at q
    · exact ⟨q.1, q.2.1, q.2.2.1, hq _ q.2.2.2⟩
    · exact q.elim⟩
end
end PL
set_option Elab.async false
set_option linter.all false
set_option maxRecDepth 100000
set_option maxHeartbeats 2000000
namespace PL
open PySem PySem.Spec PyProof.Rows L2
open LamX (ExtN Tabs TabS)
section
variable {T : Tb} {X : Cx} {W : WX} {pos p apos cpos : Pos} {e a b c : Expr} {K : PySem.W.Frag} {G : Gh} {ρ ρ2 : En} {σ σ2 : L2.St} {H H' : Hp}
/-! ### dicts that are values -/
def wVIx (wo wk : PW) : PW := fun ρ Q E => wo ρ (fun d => wk ρ (fun k => dIx (atSl (.sh d) k) Q) E) E
def wVGet (wo wk wx : PW) : PW := fun ρ Q E => wo ρ (fun d => match d with
  | .dict ps => wk ρ (fun k => wx ρ (fun x => dGet (atSl (.sh (.dict ps)) k) x Q) E) E
  | _ => False) E
def wVIn (neg : Bool) (wk wo : PW) : PW := fun ρ Q E => wk ρ (fun k => wo ρ (fun d => dIn neg (atSl (.sh d) k) Q) E) E
theorem de_vdx {wo wk : PW} {k : Nat} (hr : Room k X.A) (ho : DE T X W a wo) (hk : DE T X W b wk) (hs : NoSl b) : DE T X W (.Subscript a b pos) (wVIx wo wk) :=
  ⟨pe_mono (pe_dget (hu_of hr) ho.pe hk.pe hs) fun σ H Q q => by
    obtain ⟨G, ρ, r, q⟩ := q
    refine lift_intro ho.mono r (ho.mono _ _ _ _ _ (fun d hd v H1 r1 e1 a1 => lift_intro hk.mono r1 (hk.mono _ _ _ _ _ (fun kd hd' y H2 r2 e2 a2 => ?_) (fun _ z => z) hd)) (fun _ z => z) q)
    unfold dIx at hd'
    split at hd'
    · rename_i d' ho'
      obtain ⟨a', o', e', g1, g2, g3⟩ := sl_get (K := X.K) (D0 := T.dc) (O := G.O) (s := .sh d) (u := v) ⟨v, rfl, a1.ext e2⟩ a2 ho'
      cases e'
      cases o' with
      | none => exact g3.elim
      | some v' => exact ⟨_, _, rfl, g2, hd' v' H2 r2 g3⟩
    · exact hd'.elim, fun ρ Q Q' E E' hq he h => ho.mono _ _ _ _ _ (fun d hd => hk.mono _ _ _ _ _ (fun k hk => mono_dIx hq hk) he hd) he h⟩
theorem de_vdget {wo wk wx : PW} {k : Nat} (hr : Room k X.A) (ho : DE T X W a wo) (hk : DE T X W b wk) (hx : DE T X W c wx) (m : M2 X a "get" apos b c cpos) : DE T X W (.Call (.Attribute a "get" apos) [b, c] [] cpos) (wVGet wo wk wx) :=
  ⟨pe_mono (pe_dget2 (hu_of hr) ho.pe hk.pe hx.pe m) fun σ H Q q => by
    obtain ⟨G, ρ, r, q⟩ := q
    refine lift_intro ho.mono r (ho.mono _ _ _ _ _ (fun d hd v H1 r1 e1 a1 => ?_) (fun _ z => z) q)
    cases d with
    | dict ps =>
      obtain ⟨a', rfl, isd⟩ := slot_isd (K := X.K) (D0 := T.dc) (O := G.O) (s := .sh (.dict ps)) (v := v) ⟨v, rfl, a1⟩ rfl
      refine ⟨a', rfl, isd, lift_intro hk.mono r1 (hk.mono _ _ _ _ _ (fun kd hd' y H2 r2 e2 a2 => ?_) (fun _ z => z) hd)⟩
      refine lift_intro hx.mono r2 (hx.mono _ _ _ _ _ (fun xd hx' z H3 r3 e3 a3 => ?_) (fun _ z => z) hd')
      unfold dGet at hx'
      split at hx'
      · rename_i o ho'
        obtain ⟨a2', o', e', g1, g2, g3⟩ := sl_get (K := X.K) (D0 := T.dc) (O := G.O) (s := .sh (.dict ps)) ⟨_, rfl, (a1.ext e2).ext e3⟩ (a2.ext e3) ho'
        cases e'
        refine ⟨o', g2, hx' _ H3 r3 ?_⟩
        cases o with
        | none => cases o' with
          | none => exact a3
          | some _ => exact g3.elim
        | some d' => cases o' with
          | none => exact g3.elim
          | some v' => exact g3
      · exact hx'.elim
    | _ => exact hd.elim, fun ρ Q Q' E E' hq he h => ho.mono _ _ _ _ _ (fun d hd => by
      cases d <;> first | exact hk.mono _ _ _ _ _ (fun k hk => hx.mono _ _ _ _ _ (fun x hx' => mono_dGet hq hx') he hk) he hd | exact hd) he h⟩
theorem in_same {O : List Addr} {o : Option PyData} {o' : Option V} (g : Found K O H o o') : o.isSome = o'.isSome := by
  cases o <;> cases o' <;> first | rfl | exact g.elim
theorem de_vdin {wo wk : PW} {k : Nat} (hr : Room k X.A) (ho : DE T X W a wo) (hk : DE T X W b wk) (hm : behindInMarks .In a = false := by rfl) : DE T X W (.Compare b [.In] [a] pos) (wVIn false wk wo) :=
  ⟨pe_mono (pe_cmp (pc_din (hu_of hr) hk.pe ho.pe) hm) fun σ H Q q => by
    obtain ⟨G, ρ, r, q⟩ := q
    refine lift_intro hk.mono r (hk.mono _ _ _ _ _ (fun kd hd' y H1 r1 e1 a1 => lift_intro ho.mono r1 (ho.mono _ _ _ _ _ (fun d hd v H2 r2 e2 a2 => ?_) (fun _ z => z) hd')) (fun _ z => z) q)
    unfold dIn at hd
    split at hd
    · rename_i o ho'
      obtain ⟨a2', o', e', g1, g2, g3⟩ := sl_get (K := X.K) (D0 := T.dc) (O := G.O) (s := .sh d) (u := v) ⟨v, rfl, a2⟩ (a1.ext e2) ho'
      cases e'
      exact ⟨_, o', rfl, g2, by rw [← in_same g3]; exact hd _ H2 r2 (.bl _)⟩
    · exact hd.elim, fun ρ Q Q' E E' hq he h => hk.mono _ _ _ _ _ (fun k hk => ho.mono _ _ _ _ _ (fun d hd => mono_dIn hq hd) he hk) he h⟩
theorem de_vdnin {wo wk : PW} {k : Nat} (hr : Room k X.A) (ho : DE T X W a wo) (hk : DE T X W b wk) (hm : behindInMarks .NotIn a = false := by rfl) : DE T X W (.Compare b [.NotIn] [a] pos) (wVIn true wk wo) :=
  ⟨pe_mono (pe_cmp (pc_dnotin (hu_of hr) hk.pe ho.pe) hm) fun σ H Q q => by
    obtain ⟨G, ρ, r, q⟩ := q
    refine lift_intro hk.mono r (hk.mono _ _ _ _ _ (fun kd hd' y H1 r1 e1 a1 => lift_intro ho.mono r1 (ho.mono _ _ _ _ _ (fun d hd v H2 r2 e2 a2 => ?_) (fun _ z => z) hd')) (fun _ z => z) q)
    unfold dIn at hd
    split at hd
    · rename_i o ho'
      obtain ⟨a2', o', e', g1, g2, g3⟩ := sl_get (K := X.K) (D0 := T.dc) (O := G.O) (s := .sh d) (u := v) ⟨v, rfl, a2⟩ (a1.ext e2) ho'
      cases e'
      exact ⟨_, o', rfl, g2, by rw [← in_same g3]; exact hd _ H2 r2 (.bl _)⟩
    · exact hd.elim, fun ρ Q Q' E E' hq he h => hk.mono _ _ _ _ _ (fun k hk => ho.mono _ _ _ _ _ (fun d hd => mono_dIn hq hd) he hk) he h⟩
/-! ### walks over a text -/
def signsD (x : Str) : List PyData := x.cps.toList.map fun c => .str ⟨#[c]⟩
theorem wk_str {x : Str} {B : Hp} : WkJ K B (Its x) (signsD x) := fun O H e dm => by
  refine ⟨fun i d hd => ?_, fun i hi => by
    rw [signsD, List.length_map, Array.length_toList] at hi
    exact hi⟩
  rw [signsD, List.getElem?_map] at hd
  cases hc : x.cps.toList[i]? with
  | none => rw [hc] at hd; cases hd
  | some ch =>
    rw [hc] at hd
    cases hd
    have hi : i < x.cps.size := by
      have := (List.getElem?_eq_some_iff.mp hc).1
      rwa [Array.length_toList] at this
    refine ⟨hi, fun v H3 hy => ?_⟩
    obtain ⟨rfl, c', h1, rfl⟩ := hy
    have : c' = ch := by
      rw [Array.getElem?_toList] at hc
      rw [hc] at h1
      exact (Option.some.inj h1).symm
    subst this
    exact ⟨fun _ _ e => e, .str _⟩
def wItS (w : PW) : PWs := fun ρ Q E => w ρ (fun d => match d with | .str x => Q (signsD x) | _ => False) E
theorem di_str {tg : Expr} {w : PW} (h : DE T X W e w) : DI T X W tg e (wItS w) := ⟨pi_mono (pi_str h.pe) fun σ H R q => by
    obtain ⟨G, ρ, r, q⟩ := q
    refine ⟨G, ρ, r, h.mono _ _ _ _ _ (fun d hd v H' r' a => ?_) (fun _ z => z) q⟩
    cases a with
    | str x => exact ⟨x, rfl, hd _ H' r' wk_str⟩
    | _ => exact hd.elim, fun ρ Q Q' E E' hq he q => h.mono _ _ _ _ _ (fun d hd => by cases d <;> first | exact hq _ hd | exact hd) he q⟩
end
end PL
set_option Elab.async false
set_option linter.all false
set_option maxRecDepth 100000
set_option maxHeartbeats 2000000
namespace PL
open PySem PySem.Spec PyProof.Rows L2
open LamX (ExtN Tabs TabS)
/-! ### {k: v, ..} -/
section
variable {T : Tb} {X : Cx} {W : WX} {pos p p2 pos' pos2 apos cpos : Pos} {e a b c : Expr} {K : PySem.W.Frag} {G : Gh} {ρ ρ2 : En} {σ σ2 : L2.St} {H H' : Hp}
theorem TOk.updK {D : Addr} {kvs : List (Key × V)} {o' : HO} (t : TOk T H) (hD : H D = some (.dK kvs)) : TOk T (L2.upd H D o') := by
  refine ⟨fun Q hQ => ?_, fun p hp => ?_⟩
  · obtain ⟨ps, h1, h2⟩ := t.g Q hQ
    exact ⟨ps, by rw [upd_ne fun z => by rw [z, hD] at h1; cases h1]; exact h1, h2⟩
  · obtain ⟨ps, h1, h2, h3⟩ := t.l p hp
    refine ⟨ps, by rw [upd_ne fun z => by rw [z, hD] at h1; cases h1]; exact h1, h2, fun pos cv hcv => ?_⟩
    obtain ⟨c', e, h4⟩ := h3 pos cv hcv
    exact ⟨c', e, by rw [upd_ne fun z => by rw [z, hD] at h4; cases h4]; exact h4⟩
/-- a dict of ours in flight is written -/
theorem Rep.putK {Hb : Hp} {O : List Addr} {fl : List (Addr × HO)} {D : Addr} {ks ks' : List (Key × V)} (r : Rep T K ⟨Hb, O, (D, .dK ks) :: fl⟩ ρ σ H) (ap : Apt ρ σ D) (hn : ∀ q ∈ fl, q.1 ≠ D) :
    Rep T K ⟨Hb, O, (D, .dK ks') :: fl⟩ ρ σ (upd H D (.dK ks')) ∧ hide O (upd H D (.dK ks')) = hide O H := by
  obtain ⟨hO, hD⟩ := r.fly _ List.mem_cons_self
  have eh : hide O (upd H D (.dK ks')) = hide O H := hide_upd hO
  have off : ∀ (j : Nat) (s : Sl) (b : Addr), ρ[j]? = some s → s.owned = true → σ[j]? = some (some (.ref b)) → b ≠ D := fun j s b hj hs e z => by
    rw [z] at e; exact ap j s hj hs e
  refine ⟨⟨r.len, fun j s hj => ?_, r.sep, r.tab.updK hD, by rw [eh]; exact r.ext, fun b hb => ?_, fun q hq => ?_, fun b hb => ?_⟩, eh⟩
  · obtain ⟨u, h1, h2⟩ := r.slot j s hj
    refine ⟨u, h1, ?_⟩
    cases s with
    | un => trivial
    | sh d => obtain ⟨x, h3, h4⟩ := h2; exact ⟨x, h3, by rw [eh]; exact h4⟩
    | ol ds => obtain ⟨b, us, h3, h4, h5, h6⟩ := h2; subst h3; exact ⟨b, us, rfl, h4, by rw [upd_ne (off j _ b hj rfl h1)]; exact h5, by rw [eh]; exact h6⟩
    | ok ds => obtain ⟨b, us, h3, h4, h5, h6, h7⟩ := h2; subst h3; exact ⟨b, us, rfl, h4, by rw [upd_ne (off j _ b hj rfl h1)]; exact h5, h6, by rw [eh]; exact h7⟩
    | ot ds => obtain ⟨b, us, h3, h4, h5, h6, h7⟩ := h2; subst h3; exact ⟨b, us, rfl, h4, by rw [upd_ne (off j _ b hj rfl h1)]; exact h5, h6, by rw [eh]; exact h7⟩
    | dice => exact h2
    | scr ns => obtain ⟨b, h3, h4⟩ := h2; exact ⟨b, h3, by rw [eh]; exact h4⟩
  · by_cases z : b = D
    · rw [z, upd_same]; exact ⟨_, rfl, fun ps e => by cases e⟩
    · rw [upd_ne z]; exact r.dom b hb
  · rcases List.mem_cons.mp hq with z | z
    · rw [z]; exact ⟨hO, upd_same⟩
    · rw [upd_ne (hn q z)]; exact r.fly q (List.mem_cons_of_mem _ z)
  · obtain ⟨h1, h2, h3⟩ := r.dcs b hb
    have nb : b ≠ D := fun z => h3 _ List.mem_cons_self z.symm
    refine ⟨h1, by rw [upd_ne nb]; exact h2, fun q hq => ?_⟩
    rcases List.mem_cons.mp hq with z | z
    · rw [z]; exact fun z => nb z.symm
    · exact h3 q (List.mem_cons_of_mem _ z)
abbrev PWq := En → (List (Key × PyData) → Prop) → (Exn → Prop) → Prop
def wqNil : PWq := fun _ Q _ => Q []
def wqCons (wk wv : PW) (wr : PWq) : PWq := fun ρ Q E => wk ρ (fun k => wv ρ (fun v => wr ρ (fun ps => ∃ key, keyOf k = some key ∧ Q ((key, v) :: ps)) E) E) E
def PrDa (K : PySem.W.Frag) (H : Hp) (vs : List (V × V)) (ps : List (Key × PyData)) : Prop := ∃ kvs : List (Key × V), vs = kvs.map (fun kv => (kV kv.1, kv.2)) ∧ kvs.map (·.1) = ps.map (·.1) ∧ DaAll K H (kvs.map (·.2)) (ps.map (·.2))
structure DPq (T : Tb) (X : Cx) (W : WX) (pos : Pos) (keys : List (Option Expr)) (values : List Expr) (trs : List (TE × TE)) (w : PWq) : Prop where
  pp : PPs X pos keys values trs
  imp : ∀ σ H Q, (∃ G ρ, Rep T X.K G ρ σ H ∧ w ρ (fun ps => ∀ vs H', Rep T X.K G ρ σ H' → PrDa X.K (hide G.O H') vs ps → Q vs H') (exOut T X.K W G ρ σ)) → tPairs trs σ H Q
  mono : Mono w
theorem dq_nil : DPq T X W pos [] [] [] wqNil := ⟨pps_nil, fun σ H Q q => by
    obtain ⟨G, ρ, r, q⟩ := q
    exact q [] H r ⟨[], rfl, rfl, .nil⟩, fun ρ Q Q' E E' hq he h => hq _ h⟩
theorem dq_cons {k v : Expr} {ks : List (Option Expr)} {vs : List Expr} {trs : List (TE × TE)} {wk wv : PW} {wr : PWq} (hk : DE T X W k wk) (hv : DE T X W v wv) (hr : DPq T X W pos ks vs trs wr) :
    DPq T X W pos (some k :: ks) (v :: vs) ((lift T X.K W wk, lift T X.K W wv) :: trs) (wqCons wk wv wr) := ⟨pps_cons hk.pe hv.pe hr.pp, fun σ H Q q => by
    obtain ⟨G, ρ, r, q⟩ := q
    refine ⟨G, ρ, r, hk.mono _ _ _ _ _ (fun kd hkd x H1 r1 a1 => lift_intro hv.mono r1 (hv.mono _ _ _ _ _ (fun vd hvd y H2 r2 e2 a2 => ?_) (fun _ z => z) hkd)) (fun _ z => z) q⟩
    refine hr.imp σ H2 _ ⟨⟨hide G.O H2, G.O, G.fl⟩, ρ, r2.rebase, hr.mono _ _ _ _ _ (fun ps hps vs' H3 r3 pd => ?_) (fun x hx H' cls dd r' q => hx H' cls dd (r'.unbase r2.ext) q) hvd⟩
    obtain ⟨key, ek, hq⟩ := hps
    obtain ⟨kvs, rfl, p1, p2⟩ := pd
    refine hq _ H3 (r3.unbase r2.ext) ⟨(key, y) :: kvs, ?_, by simp only [List.map_cons, p1], .cons (a2.ext r3.ext) p2⟩
    rw [keyOf_da a1 ek]
    rfl, fun ρ Q Q' E E' hq he q => hk.mono _ _ _ _ _ (fun _ h => hv.mono _ _ _ _ _ (fun _ h => hr.mono _ _ _ _ _ (fun _ h => by obtain ⟨key, e1, h⟩ := h; exact ⟨key, e1, hq _ h⟩) he h) he h) he q⟩
def wDisp (w : PWq) : PW := fun ρ Q E => w ρ (fun ps => ps.length ≤ 15 ∧ Q (dictD ps)) E
theorem de_disp {keys : List (Option Expr)} {values : List Expr} {trs : List (TE × TE)} {w : PWq} (h : DPq T X W pos keys values trs w) (hall : keys.all (·.isSome) = true) (hl : keys.length = values.length) (h0 : keys ≠ []) (h15 : keys.length ≤ 15) : DE T X W (.Dict keys values pos) (wDisp w) :=
  ⟨pe_mono (pe_disp h.pp hall hl h0 h15) fun σ H Q q p hp => by
    obtain ⟨G, ρ, r, q⟩ := q
    obtain ⟨r', eh, na, ap⟩ := r.own (o := .dK []) hp (fun ps z => by cases z)
    have nd : p ∉ T.dc := fun z => na (r.dcs p z).1
    refine h.imp σ _ _ ⟨_, ρ, r'.fly1 List.mem_cons_self upd_same nd, h.mono _ _ _ _ _ (fun ps hps vs H3 r3 pd => ?_) (fun x hx H' cls dd r3 q => hx H' cls dd (r.drop r3.land.1 ap) (exR_ext (ext_sub fun b hb => List.mem_cons_of_mem _ hb) q)) q⟩
    obtain ⟨kvs, rfl, p1, p2⟩ := pd
    have nf : ∀ q ∈ G.fl, q.1 ≠ p := fun q hq z => na (by rw [← z]; exact (r.fly q hq).1)
    obtain ⟨r4, e4⟩ := r3.putK (ks' := mergeK [] kvs) ap nf
    refine ⟨r3.land.2, kvs, rfl, by rw [length_of_map p1]; exact hps.1, hps.2 _ _ (r.drop r4.land.1 ap) ?_⟩
    obtain ⟨g1, g2⟩ := merge_da (kvs := []) (kds := []) p1 p2 rfl .nil
    have e5 : ExtN (hide (p :: G.O) H3) (hide G.O (upd H3 p (.dK (mergeK [] kvs)))) := by
      rw [← e4]
      exact ext_sub fun b hb => List.mem_cons_of_mem _ hb
    exact da_dict (by rw [hide_out na]; exact upd_same) g1 (g2.ext e5), fun ρ Q Q' E E' hq he q => h.mono _ _ _ _ _ (fun _ h => ⟨h.1, hq _ h.2⟩) he q⟩
/-- dict(f(..)) -/
theorem de_dictC {k n : Nat} {f : Addr} {fd : FuncData} {ps : List Str} {c : PW} {x : Str} {ws : PWp} {es : List Expr} (hc : X.calm = true) (hgd : Gl X "dict") (hmd : X.mg "dict" = none)
    (F : FnOk X.prog X.w X.K X.mg X.base (L2.CX X.prog X.w) k f fd ps (spDP T X.K n c)) (mc : Mono c) (hr : Room k X.A) (hg : Gl X x) (hm : X.mg x = some (.ref f)) (hk : PySem.W.keepIn X.K (.ref f) = true) (hb : Binds X.K fd ps []) (tk : Takes X W)
    (h : DP T X W (e :: es) ws) (hdb : (x == ("__debug__" : Str)) = false := by decide) (he : starEach (e :: es) X.env = (false, eval e X.env) :: starEach es X.env := by rfl) (hpl : (backTo pos' (starEach es X.env)).any (·.1) = false := by rfl)
    (he2 : starEach [.Call (.Name x p2) (e :: es) [] pos'] X.env = (false, eval (.Call (.Name x p2) (e :: es) [] pos') X.env) :: starEach [] X.env := by rfl) :
    DE T X W (.Call (.Name "dict" p) [.Call (.Name x p2) (e :: es) [] pos'] [] pos) (wDictP (wCall n c ws)) :=
  de_dictP hc hgd hmd (pe_callP F mc hr hg hm hk hb tk h hdb he hpl).1 (pe_callP (p := p2) (pos := pos') F mc hr hg hm hk hb tk h hdb he hpl).2 he2
/-- a contract is also one that forgets -/
theorem spDP_forget {P : Program} {w : World} {mg : Str → Option Value} {base : Heap} {f : Addr} {fd : FuncData} {ps : List Str} {k : Nat} {c : PW} (mc : ∀ A : Around, Room k A → Mono c) (F : FnOk P w K mg base (L2.CX P w) k f fd ps (spDP T K ps.length c)) : FnOk P w K mg base (L2.CX P w) k f fd ps (spD T K ps.length c) :=
  ⟨fun vs H Q E h => by
      obtain ⟨O, ρ, h1, h2, _⟩ := h
      have := h2.len
      rw [List.length_map] at this
      omega,
   fun A outer s H args us vs Q E hr e0 hb r h => F.run A outer s H args us vs Q E hr e0 hb r (by
      obtain ⟨O, ρ, h1, h2, h3, h4⟩ := h
      exact ⟨O, ρ, h1, h2, h3, mc A hr _ _ _ _ _ (fun d hd v H' b _ a => hd v H' b a) (fun _ z => z) h4⟩)⟩
end
end PL
set_option Elab.async false
set_option linter.all false
set_option maxRecDepth 100000
set_option maxHeartbeats 2000000
namespace PL
open PySem PySem.Spec PyProof.Rows L2
open LamX (ExtN Tabs TabS)
section
variable {T : Tb} {X : Cx} {W : WX} {pos p p2 pos' pos2 apos cpos : Pos} {e a b c : Expr} {K : PySem.W.Frag} {G : Gh} {ρ ρ2 : En} {σ σ2 : L2.St} {H H' : Hp}
/-! ### sorted of a tuple -/
mutual
theorem reads_there {h : Heap} : ∀ {v : Value} {d : PyData} {as : List Addr}, Reads h v d as → ∀ a ∈ as, ∃ o, h.get? a = some o
  | _, _, _, .none, a, ha => by cases ha
  | _, _, _, .bool b, a, ha => by cases ha
  | _, _, _, .int i t, a, ha => by cases ha
  | _, _, _, .str x t, a, ha => by cases ha
  | _, _, _, .list h1 h2 h3 h4, a, ha => by
    rcases List.mem_cons.mp ha with rfl | ha
    · exact ⟨_, h1⟩
    · exact readsAll_there h4 a ha
  | _, _, _, .tuple h1 h2 h3 h4, a, ha => readsAll_there h4 a ha
  | _, _, _, .dict h1 h2 h3 h4 h5, a, ha => by
    rcases List.mem_append.mp ha with ha | ha
    · rcases List.mem_cons.mp ha with rfl | ha
      · exact ⟨_, h1⟩
      · exact readsAll_there h4 a ha
    · exact readsAll_there h5 a ha
theorem readsAll_there {h : Heap} : ∀ {vs : List Value} {ds : List PyData} {as : List Addr}, ReadsAll h vs ds as → ∀ a ∈ as, ∃ o, h.get? a = some o
  | _, _, _, .nil, a, ha => by cases ha
  | _, _, _, .cons h1 h2, a, ha => by
    rcases List.mem_append.mp ha with ha | ha
    · exact reads_there h1 a ha
    · exact readsAll_there h2 a ha
end
def fSortedT : PyData → (PyData → Prop) → Prop
  | .tuple xs, Q => (PyData.plainAll xs = true ∧ (∀ d ∈ xs, d.depth ≤ 30) ∧ PySem.W.AllAlike xs ∧ PySem.W.Sortable xs) ∧ Q (.list (xs.mergeSort (PySem.W.dataLe false id)))
  | _, _ => False
theorem mono_sortedT : MonoF1 fSortedT := fun x Q Q' hq h => by
  unfold fSortedT at h ⊢
  split at h
  · exact ⟨h.1, hq _ h.2⟩
  · exact h
theorem each_readsX {pins : List (Addr × Obj)} {σ' : L2.St} {s : Shared} {O : List Addr} (I : Inv X pins σ' H s) : ∀ {vs : List V} {us : List Value} {ds : List PyData}, Vals vs us → DaAll X.K (hide O H) vs ds → PyData.plainAll ds = true → PySem.W.EachIs (fun u d => ∃ as, Reads s.heap u (id d) as) us ds
  | _, _, _, .nil, .nil, _ => .nil
  | _, _, _, .cons r rs, .cons h hs, p => by
    simp only [PyData.plainAll, Bool.and_eq_true] at p
    exact .cons (Dp.reads I _ _ _ (h.whole.dp p.1) r) (each_readsX I rs hs p.2)
theorem cf_sortedT {k : Nat} (hr : Room k X.A) : CallF T X (.builtin "sorted") fSortedT := by
  intro pins s σ0 H xs us Q I rx q
  obtain ⟨x, G, ρ, σ, d, rfl, r, t, q⟩ := q
  have hu := hr.un
  unfold fSortedT at q
  cases rx with
  | cons r1 r2 =>
    cases r2
    split at q
    · rename_i ds
      obtain ⟨⟨pl, dp, al, so⟩, q⟩ := q
      obtain ⟨a, vs, rfl, _, ha, hx⟩ := t.tup
      cases r1
      obtain ⟨its, rv, pl', hz⟩ := I.tuple ha
      obtain ⟨o, ho, hc, n, hdat⟩ := pl'
      have hil : its.length = ds.length := by rw [← rv.length, hx.length]
      refine Calls.call_function_entry kind_sorted plain_sorted entry_sorted (args_sorted1 _) ?_
      unfold Builtin.«sorted»
      refine wpAny_bind (m := checkCount "sorted" 1 1 _) (wpAny_pure (wpAny_bind (wpAny_collect_seq (A := X.A.in1) a (.inr rfl) ho hc hdat (fun h' hk => ?_) (by rw [List.size_toArray, ← rv.length]; exact hz))))
      have hL : its.length ≤ sizeLine := by rw [← rv.length]; exact hz
      show wpAny _ _ (newList its >>= _) _ _ _
      refine wpAny_bind (wpAny_newList ?_ hL)
      have hoL : (h'.push (seqObj "list" its.toArray 0)).get? h'.objs.size = some (seqObj "list" its.toArray 0) := Heap.get?_push_size _ rfl
      have Ia : Inv X pins σ0 H { s with heap := h' } := I.kept (t' := s.toks) hk
      have er := each_readsX I rv hx pl
      have er' : PySem.W.EachIs (fun u d => ∃ as, Reads (h'.push (seqObj "list" its.toArray 0)) u (id d) as ∧ h'.objs.size ∉ as) its ds := by
        refine er.mono fun u d ⟨as, hr⟩ => ⟨as, PyProof.Rows.Reads.keeps (fun b o e => Heap.get?_push_of_some _ (hk b o e)) hr, fun z => ?_⟩
        obtain ⟨o', e'⟩ := reads_there hr _ z
        exact absurd (Heap.lt_size (hk _ _ e')) (Nat.lt_irrefl _)
      refine wpAny_bind (wpAny_holding (PySem.W.list_sort_data (enc := id) (R := fun u d => ∃ v, RelV v u ∧ Da X.K (hide G.O H) v d) hoL (each_da rv hx) er' (by rw [List.map_id]; exact al) (by rw [List.map_id]; exact so) (by rw [← hil]; exact hL) (fun b hb => by have := dp b hb; show X.A.units + 1 + 1 + b.depth < _; omega) fun out hl eo => ?_))
      obtain ⟨ws, rw', hw⟩ := each_out eo
      obtain ⟨ep, he'⟩ := sortedHeap_at (vs := its) (out := out.toArray) hoL
      have hn : H h'.objs.size = none := Ia.hok.fresh (Nat.le_refl _)
      have hlen : ws.length ≤ sizeLine := by rw [rw'.length, hl, ← hil]; exact hL
      obtain ⟨r2, na, ap, h1, h2⟩ := r.newL hn hw
      have kS : ∀ b o, h'.get? b = some o → (sortedHeap (h'.push (seqObj "list" its.toArray 0)) h'.objs.size its out.toArray).get? b = some o := fun b o e2 => by
        rw [sortedHeap_old (Nat.ne_of_lt (Heap.lt_size e2)) (by rw [size_push']; exact Nat.lt_succ_of_lt (Heap.lt_size e2))]
        exact Heap.get?_push_of_some _ e2
      exact wpAny_pure ⟨_, rfl, .ref _, upd H h'.objs.size (.lst ws), Ia.laid (t' := s.toks) kS (Nat.le_refl _) ⟨hlen, out, ep, rw', he'⟩, rfl, q _ _ _ _ rfl r2 na ap h1 h2⟩
    · exact q.elim
end
end PL
set_option Elab.async false
set_option linter.all false
set_option maxRecDepth 100000
set_option maxHeartbeats 2000000
/-! generator expressions of two clauses -/
namespace GxI
open PySem PySem.Spec PyProof.Rows L2
theorem Inv.reA {X : Cx} {pins : List (Addr × Obj)} {σ : L2.St} {H : Hp} {s : Shared} (I : Inv X pins σ H s) (A' : Around) (hf : A'.frames = X.A.frames) (hh : X.calm = true → A'.handled = none) : Inv { X with A := A' } pins σ H s :=
  ⟨⟨I.ok.mod, I.ok.kind, I.ok.glob, I.ok.blt, I.ok.above, I.ok.inj, I.ok.has, I.ok.cab, hh, hf.trans I.ok.frames, I.ok.stk, I.ok.exf, I.ok.bs, I.ok.bsz, I.ok.noex, I.ok.exfs, I.ok.funs, I.ok.frf⟩, I.os, I.bare, I.base, I.loc, I.cell, I.free, I.freeC, I.pin, I.hok, I.len⟩
abbrev Ge2 (elt tg iter tg1 iter1 : Expr) (ifs ifs1 : List Expr) (scope : Scope) (pos : Pos) : Expr := .GeneratorExp elt [⟨tg, iter, ifs, 0⟩, ⟨tg1, iter1, ifs1, 0⟩] scope pos
theorem turn_in (elt tg iter tg1 iter1 : Expr) (ifs ifs1 : List Expr) (scope : Scope) (pos : Pos) (it acc : Value) (env : Env) :
    compTurn (Ge2 elt tg iter tg1 iter1 ifs ifs1 scope pos) 1 it acc env = (do
      standAt iter1.pos
      match ← pyNext it with
      | none => pure (.done .next)
      | some v =>
        letOwnedTupleGo tg1 it v
        assign tg1 env v
        let mut ok := true
        for c in ifs1 do
          if ok then ok ← isTrue c env (eval c env)
        if ok then
          (do let v ← eval elt env; standAt elt.pos; let _ ← yieldOut env v)
        again (.compLoop (Ge2 elt tg iter tg1 iter1 ifs ifs1 scope pos) 1 it acc env)) := by rfl
theorem turn_out (elt tg iter tg1 iter1 : Expr) (ifs ifs1 : List Expr) (scope : Scope) (pos : Pos) (it acc : Value) (env : Env) :
    compTurn (Ge2 elt tg iter tg1 iter1 ifs ifs1 scope pos) 0 it acc env = (do
      standAt iter.pos
      match ← pyNext it with
      | none => pure (.done .next)
      | some v =>
        letOwnedTupleGo tg it v
        assign tg env v
        let mut ok := true
        for c in ifs do
          if ok then ok ← isTrue c env (eval c env)
        if ok then
          let x ← eval iter1 env
          standAt iter1.pos
          let x ← foldedSetIterable iter1 env x
          let _ ← runOwn (.compStart (Ge2 elt tg iter tg1 iter1 ifs ifs1 scope pos) 1 (← holding [x] (pyIter x)) acc env) env
        again (.compLoop (Ge2 elt tg iter tg1 iter1 ifs ifs1 scope pos) 0 it acc env)) := by rfl
/-- the inner loop's state -/
def ISt (X1 : Cx) (S : List Addr) (a : Addr) (go : Obj) (fp fp1 : List Addr) (tO : Heap → Prop) (tn1 : Nat → Heap → Prop) (Gd1 : Nat → Hp → Prop) (σ : L2.St) (j : Nat) (s : Shared) : Prop :=
  ∃ H pl, pl.map (·.1) = S ∧ Inv X1 ((a, go) :: pl) σ H s ∧ tn1 j s.heap ∧ (∀ b ∈ fp1, H b = none) ∧ tO s.heap ∧ (∀ b ∈ fp, H b = none) ∧ Gd1 j H
end GxI
set_option Elab.async false
set_option linter.all false
set_option maxRecDepth 100000
set_option maxHeartbeats 2000000
namespace GxI
open PySem PySem.Spec PyProof.Rows L2
theorem ISt.kp {X1 : Cx} {S : List Addr} {a : Addr} {go : Obj} {fp fp1 : List Addr} {tO : Heap → Prop} {tn1 : Nat → Heap → Prop} {Gd1 : Nat → Hp → Prop} {σ : L2.St} {j : Nat} {s s' : Shared} (hpn : X1.pn = []) (ap : SApart X1 S a fp) (ap1 : ∀ b ∈ S, b ∉ fp1)
    (kO : ∀ h h', tO h → (∀ b ∈ fp, ∀ o, h.get? b = some o → h'.get? b = some o) → tO h') (k1 : ∀ i h h', tn1 i h → (∀ b ∈ fp1, ∀ o, h.get? b = some o → h'.get? b = some o) → tn1 i h') (h : ISt X1 S a go fp fp1 tO tn1 Gd1 σ j s) (k : Kp S s s') : ISt X1 S a go fp fp1 tO tn1 Gd1 σ j s' := by
  obtain ⟨H, pl, e, I, st1, n1, stO, nO, gd⟩ := h
  obtain ⟨pl', e', I'⟩ := inv_kp hpn ap e I k
  exact ⟨H, pl', e', I', k1 _ _ _ st1 fun b hb o q => k.keep b o (fun hs => ap1 b hs hb) q, n1, kO _ _ stO fun b hb o q => k.keep b o (fun hs => ap.fp b hs hb) q, nO, gd⟩
/-- what the inner turns are -/
structure InOk (J1 : It) (g1 : TG) (tt1 : TT) (te : TE) (vs1 : List Nat) (σ2 : L2.St) (es : List (Option V)) (Gd1 : Nat → Hp → Prop) : Prop where
  turn : ∀ j e H, es[j]? = some e → Gd1 j H → J1.go j H ∧ ∀ y H', J1.yld j H y H' → g1 y (wipe σ2 vs1) H' fun σ3 H5 => wipe σ3 vs1 = wipe σ2 vs1 ∧ tt1 σ3 H5 fun b H6 => b = e.isSome ∧ (b = false → Gd1 (j + 1) H6) ∧ (b = true → te σ3 H6 fun y H7 => some y = e ∧ Gd1 (j + 1) H7)
  stop : ∀ H, Gd1 es.length H → J1.stop es.length H
theorem wipe_sub {σ3 σ2 : L2.St} {vs vs1 : List Nat} (hv : ∀ i ∈ vs1, i ∈ vs) (h : wipe σ3 vs1 = wipe σ2 vs1) : wipe σ3 vs = wipe σ2 vs := by
  have hl : σ3.length = σ2.length := by have := congrArg List.length h; rwa [wipe_length, wipe_length] at this
  apply List.ext_getElem?
  intro i
  by_cases hi : i ∈ vs
  · by_cases z : i < σ3.length
    · rw [PL.wipe_in z hi, PL.wipe_in (by rw [← hl]; exact z) hi]
    · rw [List.getElem?_eq_none (by rw [wipe_length]; omega), List.getElem?_eq_none (by rw [wipe_length]; omega)]
  · rw [PL.wipe_get hi, PL.wipe_get hi]
    have hn : i ∉ vs1 := fun z => hi (hv i z)
    have := congrArg (fun l => l[i]?) h
    simp only [PL.wipe_get hn] at this
    exact this
theorem seg_in {Xg : Cx} {A1 : Around} {A : Around} {elt tg iter tg1 iter1 : Expr} {ifs ifs1 : List Expr} {scope : Scope} {pos : Pos} {it1 a : Addr} {fp fp1 : List Addr} {tO : Heap → Prop} {tn1 : Nat → Heap → Prop} {J1 : It} {go : Obj} {S : List Addr} {g : Nat} {g1 : TG} {tt1 : TT} {te : TE} {vs vs1 : List Nat} {σw σ2 : L2.St} {n₀ : Nat} {pz : Nat → Bool} {yv : Nat → V} {Gd : Hp → Prop} {Gd1 : Nat → Hp → Prop} {fs : List Frame} {es : List (Option V)} {o : Nat}
    (hA : A1 = A.over (.compLoop (Ge2 elt tg iter tg1 iter1 ifs ifs1 scope pos) 1 (.ref it1) .none Xg.env) fs) (hfs : splitAtGen fs = none) (hfg : fs.any Frame.guarded = false) (hAf : Xg.A.frames = A1.frames) (hAh : Xg.calm = true → Xg.A.handled = none) (hc : Xg.calm = true) (hco : Xg.env.scope.isCoroutine = false) (hpn : Xg.pn = []) (hxe : Xg.xe = fun _ _ => False)
    (T1 : Turn Xg.prog Xg.w Xg.K tg1 J1 fp1 it1 tn1) (ap : SApart Xg S a fp) (ap1 : ∀ b ∈ S, b ∉ fp1) (haf1 : a ∉ fp1) (haf : a ∉ fp) (hdis : ∀ b ∈ fp1, b ∉ fp) (kO : ∀ h h', tO h → (∀ b ∈ fp, ∀ o, h.get? b = some o → h'.get? b = some o) → tO h') (oO : ∀ h, tO h → ∀ b ∈ fp, ∃ o, h.get? b = some o ∧ ∀ v, o.data ≠ .cell v)
    (f0 : ∀ b ∈ fp, b ≠ Xg.env.locals ∧ b ∉ Xg.fs ∧ (b ∈ Xg.ex ∨ Xg.s_0.heap.objs.size ≤ b) ∧ ∀ x c, Xg.env.cells.lookup x = some c → c ≠ b) (f1 : ∀ b ∈ fp1, b ≠ Xg.env.locals ∧ b ∉ Xg.fs ∧ (b ∈ Xg.ex ∨ Xg.s_0.heap.objs.size ≤ b) ∧ ∀ x c, Xg.env.cells.lookup x = some c → c ≠ b)
    (pg1 : PG { Xg with A := A1 } tg1 g1) (pt1 : PTs { Xg with A := A1 } ifs1 tt1) (pe : PE { Xg with A := A1 } elt te) (hw2 : wipe σ2 vs = σw) (hv : ∀ i ∈ vs1, i ∈ vs) (TO : InOk J1 g1 tt1 te vs1 σ2 es Gd1) (hGd : ∀ j H, Gd1 j H → Gd H)
    (flat : ∀ j e, es[j]? = some e → o + j < n₀ ∧ pz (o + j) = e.isSome ∧ ∀ v, e = some v → yv (o + j) = v)
    (hend : ∀ s₀ s', (∃ H pl, pl.map (·.1) = S ∧ Inv { Xg with A := A1 } ((a, go) :: pl) (wipe σ2 vs1) H s' ∧ tO s'.heap ∧ (∀ b ∈ fp, H b = none) ∧ Gd H) → g < s'.gens.size → SameS S s₀ s' →
      Seg (model Xg.prog Xg.w) A (fun n s₀ r s₁ => r = .ok .next ∧ gR Xg S a go (fun _ => Gd) σw n₀ g n s₀ s₁) (gY Xg S a go [] (fun _ _ => True) (fun _ => Gd) σw n₀ g pz yv) (passing pz n₀ (o + es.length)).length s₀ (.compLoop (Ge2 elt tg iter tg1 iter1 ifs ifs1 scope pos) 1 (.ref it1) .none Xg.env) (leafOf (.ok .next)) fs s') :
    ∀ (k j : Nat) (s₀ s : Shared), es.length - j = k → j ≤ es.length → g < s.gens.size → SameS S s₀ s → ISt { Xg with A := A1 } S a go fp fp1 tO tn1 Gd1 (wipe σ2 vs1) j s →
      Seg (model Xg.prog Xg.w) A (fun n s₀ r s₁ => r = .ok .next ∧ gR Xg S a go (fun _ => Gd) σw n₀ g n s₀ s₁) (gY Xg S a go [] (fun _ _ => True) (fun _ => Gd) σw n₀ g pz yv) (passing pz n₀ (o + j)).length s₀
        (.compLoop (Ge2 elt tg iter tg1 iter1 ifs ifs1 scope pos) 1 (.ref it1) .none Xg.env)
        ((model Xg.prog Xg.w).den (.compLoop (Ge2 elt tg iter tg1 iter1 ifs ifs1 scope pos) 1 (.ref it1) .none Xg.env)) fs s := by
  have apX : SApart { Xg with A := A1 } S a fp := ⟨ap.size, ap.loc, ap.cell, ap.gen, ap.fp⟩
  have stat : ∀ {σ' : L2.St} {H' : Hp} {s' : Shared} {pl : List (Addr × Obj)}, pl.map (·.1) = S → Inv { Xg with A := A1 } ((a, go) :: pl) σ' H' s' → (∀ b ∈ fp1, H' b = none) → ∀ b ∈ fp1, FpOk { Xg with A := A1 } ((a, go) :: pl) H' b := fun {σ' H' s' pl} epl I' hn b hb => by
    obtain ⟨z1, z2, z3, z4⟩ := f1 b hb
    refine ⟨hn b hb, z1, z2, z3, z4, fun p hp => ?_⟩
    have hp : p ∈ Xg.pn ++ ((a, go) :: pl) := hp
    rw [hpn] at hp
    rcases List.mem_cons.mp (show p ∈ (a, go) :: pl from hp) with e | hp
    · rw [e]; exact fun z => haf1 (by rw [show a = b from z]; exact hb)
    · exact fun z => ap1 p.1 (by rw [← epl]; exact List.mem_map.mpr ⟨p, hp, rfl⟩) (by rw [z]; exact hb)
  have statO : ∀ {σ' : L2.St} {H' : Hp} {s' : Shared} {pl : List (Addr × Obj)}, pl.map (·.1) = S → Inv { Xg with A := A1 } ((a, go) :: pl) σ' H' s' → (∀ b ∈ fp, H' b = none) → ∀ b ∈ fp, FpOk { Xg with A := A1 } ((a, go) :: pl) H' b := fun {σ' H' s' pl} epl I' hn b hb => by
    obtain ⟨z1, z2, z3, z4⟩ := f0 b hb
    refine ⟨hn b hb, z1, z2, z3, z4, fun p hp => ?_⟩
    have hp : p ∈ Xg.pn ++ ((a, go) :: pl) := hp
    rw [hpn] at hp
    rcases List.mem_cons.mp (show p ∈ (a, go) :: pl from hp) with e | hp
    · rw [e]; exact fun z => haf (by rw [show a = b from z]; exact hb)
    · exact fun z => ap.fp p.1 (by rw [← epl]; exact List.mem_map.mpr ⟨p, hp, rfl⟩) (by rw [z]; exact hb)
  have statP : ∀ {pl : List (Addr × Obj)} {hh : Heap} {H' : Hp}, pl.map (·.1) = S → (∀ b ∈ fp1, H' b = none) → ∀ b ∈ fp1, FpOk { Xg with A := A1 } (((a, go) :: pl) ++ pinsAt fp hh) H' b := fun {pl hh H'} epl hn b hb => by
    obtain ⟨z1, z2, z3, z4⟩ := f1 b hb
    refine ⟨hn b hb, z1, z2, z3, z4, fun p hp => ?_⟩
    have hp : p ∈ Xg.pn ++ (((a, go) :: pl) ++ pinsAt fp hh) := hp
    rw [hpn] at hp
    rcases List.mem_append.mp (show p ∈ ((a, go) :: pl) ++ pinsAt fp hh from hp) with hp | hp
    · rcases List.mem_cons.mp hp with e | hp
      · rw [e]; exact fun z => haf1 (by rw [show a = b from z]; exact hb)
      · exact fun z => ap1 p.1 (by rw [← epl]; exact List.mem_map.mpr ⟨p, hp, rfl⟩) (by rw [z]; exact hb)
    · exact fun z => hdis b hb (by rw [← z]; exact (of_pinsAt hp).1)
  have keepO : ∀ {pl : List (Addr × Obj)} {hh : Heap} {σ' : L2.St} {H' : Hp} {s' : Shared} {r : List (Addr × Obj)}, tO hh → Inv { Xg with A := A1 } ((((a, go) :: pl) ++ pinsAt fp hh) ++ r) σ' H' s' → tO s'.heap ∧ ∀ b ∈ fp, H' b = none := fun {pl hh σ' H' s' r} stO I' => by
    have z : ∀ b ∈ fp, ∀ o, hh.get? b = some o → s'.heap.get? b = some o ∧ H' b = none := fun b hb o e =>
      let z := I'.pin (b, o) (List.mem_append_right _ (List.mem_append_left _ (List.mem_append_right _ (mem_pinsAt hb e)))); ⟨z.1, z.2.1⟩
    refine ⟨kO _ _ stO fun b hb o e => (z b hb o e).1, fun b hb => ?_⟩
    obtain ⟨o, e, _⟩ := oO _ stO b hb
    exact (z b hb o e).2
  have noE : ∀ {α : Type} {m : Sem α} {Q : α → Shared → Prop} {s : Shared}, wpAny (model Xg.prog Xg.w) A1 m Q ({ Xg with A := A1 } : Cx).xe s → wpAny (model Xg.prog Xg.w) A1 m Q (fun _ _ => False) s := fun h => wpAny_mono h (fun _ _ z => z) fun x s z => by
    have z : Xg.xe x s := z
    rw [hxe] at z
    exact z
  intro k
  induction k with
  | zero =>
    intro j s₀ s hk hj hgs hss hst
    have hjn : j = es.length := by omega
    subst hjn
    obtain ⟨H, pl, epl, I, st1, n1, stO, nO, gd⟩ := hst
    have IO := I.pinned (statO epl I nO) (oO _ stO)
    show Seg _ A _ _ _ s₀ _ ((compTurn (Ge2 elt tg iter tg1 iter1 ifs ifs1 scope pos) 1 (.ref it1) .none Xg.env).onRaise (fun x => do noteFrame x Xg.env; theTreesLotGoes x)) fs s
    rw [turn_in, Sem.onRaise_eq_wrap]
    refine seg_bind_wrap (wpAny_standAt (seg_bind_wrap ?_))
    rw [← hA]
    have td := T1.done { Xg with A := A1 } rfl rfl rfl hc es.length _ s _ H (fun _ _ => False) IO (statP epl n1) st1 (TO.stop H gd)
    refine GenW.wpAny_gsz (Nat.succ_le_of_lt hgs) (thnF td fun r s6 ⟨hr, I6⟩ hg6 => ?_)
    subst hr
    obtain ⟨k1, k2⟩ := keepO (r := []) stO (by rw [List.append_nil]; exact I6)
    exact hend s₀ s6 ⟨H, pl, epl, I6.unpinned, k1, k2, hGd _ _ gd⟩ hg6 (hss.pins epl I I6)
  | succ k ih =>
    intro j s₀ s hk hj hgs hss hst
    have hlt : j < es.length := by omega
    obtain ⟨H, pl, epl, I, st1, n1, stO, nO, gd⟩ := hst
    obtain ⟨e, he⟩ : ∃ e, es[j]? = some e := ⟨_, List.getElem?_eq_getElem hlt⟩
    obtain ⟨jgo, step⟩ := TO.turn j e H he gd
    obtain ⟨fl1, fl2, fl3⟩ := flat j e he
    have IO := I.pinned (statO epl I nO) (oO _ stO)
    show Seg _ A _ _ _ s₀ _ ((compTurn (Ge2 elt tg iter tg1 iter1 ifs ifs1 scope pos) 1 (.ref it1) .none Xg.env).onRaise (fun x => do noteFrame x Xg.env; theTreesLotGoes x)) fs s
    rw [turn_in, Sem.onRaise_eq_wrap]
    refine seg_bind_wrap (wpAny_standAt (seg_bind_wrap ?_))
    rw [← hA]
    have ti := T1.item { Xg with A := A1 } rfl rfl rfl hc j _ s _ H (fun _ _ => False) IO (statP epl n1) st1 jgo
    refine GenW.wpAny_gsz (Nat.succ_le_of_lt hgs) (thnF ti fun r s6 ⟨u, hr, h6⟩ hg6 => ?_)
    subst hr
    refine seg_bind_wrap ?_
    rw [← hA]
    refine GenW.wpAny_gsz hg6 (thnF h6 fun _ s7 ⟨x, H7, I7, r7, y7, st7, n7⟩ hg7 => ?_)
    have I7' := I7.pinned (statP epl n7) (T1.obj _ _ st7)
    refine seg_bind_wrap ?_
    rw [← hA]
    have p1 := noE (pg1.run _ s7 _ H7 x u _ I7' r7 (step x H7 y7))
    refine GenW.wpAny_gsz hg7 (thnF p1 fun _ s8 ⟨σ8, H8, I8, hw8, q8⟩ hg8 => ?_)
    refine seg_bind_wrap ?_
    rw [← hA]
    have p2 := noE (pt1.run _ s8 σ8 H8 _ I8 q8)
    refine GenW.wpAny_gsz hg8 (thnF p2 fun b s9 ⟨H9, I9, hb9, q9f, q9t⟩ hg9 => ?_)
    have hwl : (wipe σ2 vs1).length = σ8.length := by rw [← hw8, wipe_length]
    have fin : ∀ {s' : Shared} {H' : Hp}, Inv { Xg with A := A1 } ((((a, go) :: pl) ++ pinsAt fp s.heap) ++ pinsAt fp1 s7.heap) σ8 H' s' → Gd1 (j + 1) H' → ISt { Xg with A := A1 } S a go fp fp1 tO tn1 Gd1 (wipe σ2 vs1) (j + 1) s' := fun {s' H'} I' nx => by
      have pin' : ∀ b ∈ fp1, ∀ o, s7.heap.get? b = some o → s'.heap.get? b = some o ∧ H' b = none := fun b hb o e => let z := I'.pin (b, o) (List.mem_append_right _ (List.mem_append_right _ (mem_pinsAt hb e))); ⟨z.1, z.2.1⟩
      obtain ⟨k1, k2⟩ := keepO stO I'
      refine ⟨H', pl, epl, (I'.unpinned.unpinned).weak hwl (fun i v e => by rw [← hw8] at e; exact (wipe_some e).1), T1.keep _ _ _ st7 fun b hb o e => (pin' b hb o e).1, fun b hb => ?_, k1, k2, nx⟩
      obtain ⟨o, e, _⟩ := T1.obj _ _ st7 b hb
      exact (pin' b hb o e).2
    cases b with
    | false =>
      rw [passing_false fl1 (by rw [fl2, ← hb9])]
      simp only [Bool.false_eq_true, if_false]
      exact seg_again rfl (ih (j + 1) s₀ _ (by omega) hlt hg9 (hss.pins epl I (by rw [← List.append_assoc]; exact I9)) (fin I9 (q9f rfl)))
    | true =>
      rw [passing_true fl1 (by rw [fl2, ← hb9]), List.length_cons]
      simp only [if_true]
      have hy : ∀ v, yieldOut Xg.env v = yieldValue v := fun v => by simp only [yieldOut, hco, Bool.false_eq_true, if_false]
      simp only [hy]
      rw [Sem.bind_eq_wrap', Sem.bind_eq_wrap', Sem.wrap_wrap, Sem.wrap_wrap]
      refine seg_wrap ?_
      rw [← hA]
      have p3 := noE (pe.run _ s9 σ8 H9 _ I9 (q9t rfl))
      refine GenW.wpAny_gsz hg9 (thnF p3 fun y s10 ⟨yV, H10, I10, ry, ey, gd10⟩ hg10 => ?_)
      have ev := fl3 yV ey.symm
      have st10 := fin I10 gd10
      have gst : GSt Xg S a go [] (fun _ _ => True) (fun _ => Gd) σw (o + j + 1) s10 := by
        have Ix := Inv.reA (I10.unpinned.unpinned) Xg.A hAf hAh
        refine ⟨H10, pl, epl, Ix.weak (by rw [← hw2, wipe_length, ← wipe_length σ2 vs1]; exact hwl) (fun i v e => ?_), trivial, (fun b hb => by cases hb), hGd _ _ gd10⟩
        rw [← hw2, ← wipe_sub hv hw8] at e
        exact (wipe_some e).1
      refine seg_at (seg_yield hfs rfl hfg ⟨⟨o + j, passing_here fl1 (by rw [fl2, ← hb9]), by rw [ev]; exact ry, gst⟩, hg10, hss.pins epl I (by rw [← List.append_assoc]; exact I10), fun s'' hal => ?_⟩)
      exact seg_again rfl (ih (j + 1) s'' s'' (by omega) hlt (Nat.lt_of_lt_of_le hg10 hal.gsz) (fun _ _ _ e => e) (st10.kp hpn apX ap1 kO (fun i h h' q k => T1.keep _ _ _ q k) hal))
end GxI
set_option Elab.async false
set_option linter.all false
set_option maxRecDepth 100000
set_option maxHeartbeats 2000000
namespace GxI
open PySem PySem.Spec PyProof.Rows L2
/-- outer items: none where the test fails, else the inner items -/
abbrev Rows2 := List (Option (List (Option V)))
def flat2 (rows : Rows2) : List (Option V) := rows.flatMap fun r => r.getD []
def off2 (rows : Rows2) (i : Nat) : Nat := ((rows.take i).map fun r => (r.getD []).length).sum
theorem off_zero (rows : Rows2) : off2 rows 0 = 0 := rfl
theorem off_none {rows : Rows2} {i : Nat} (h : rows[i]? = some none) : off2 rows (i + 1) = off2 rows i := by
  unfold off2
  rw [List.take_add_one, h, Option.toList_some, List.map_append, List.sum_append]
  simp
theorem off_some {rows : Rows2} {i : Nat} {es : List (Option V)} (h : rows[i]? = some (some es)) : off2 rows (i + 1) = off2 rows i + es.length := by
  unfold off2
  rw [List.take_add_one, h, Option.toList_some, List.map_append, List.sum_append]
  simp
theorem flat_len (rows : Rows2) : (flat2 rows).length = off2 rows rows.length := by
  unfold flat2 off2
  rw [List.take_length]
  induction rows with
  | nil => rfl
  | cons r t ih => rw [List.flatMap_cons, List.length_append, ih, List.map_cons, List.sum_cons]
theorem flat_at : ∀ {rows : Rows2} {i j : Nat} {es : List (Option V)} {e : Option V}, rows[i]? = some (some es) → es[j]? = some e → (flat2 rows)[off2 rows i + j]? = some e
  | [], i, j, es, e, h, _ => by simp at h
  | r :: t, 0, j, es, e, h, hj => by
    have : r = some es := by simpa using h
    subst this
    show ((es ++ flat2 t) : List (Option V))[0 + j]? = some e
    rw [Nat.zero_add, List.getElem?_append_left (List.getElem?_eq_some_iff.mp hj).1]
    exact hj
  | r :: t, i + 1, j, es, e, h, hj => by
    have ih := flat_at (rows := t) (i := i) (j := j) (by simpa using h) hj
    have ho : off2 (r :: t) (i + 1) = (r.getD []).length + off2 t i := by
      unfold off2
      rw [List.take_succ_cons, List.map_cons, List.sum_cons]
    show ((r.getD [] ++ flat2 t) : List (Option V))[off2 (r :: t) (i + 1) + j]? = some e
    rw [ho, Nat.add_assoc, List.getElem?_append_right (Nat.le_add_right _ _), Nat.add_sub_cancel_left]
    exact ih
structure OutOk (J : It) (g : TG) (tt : TT) (wi1 : TI) (g1 : TG) (tt1 : TT) (te : TE) (vs vs1 : List Nat) (σw : L2.St) (rows : Rows2) (Gd : Hp → Prop) : Prop where
  turn : ∀ i r H, rows[i]? = some r → Gd H → J.go i H ∧ ∀ x H', J.yld i H x H' → g x σw H' fun σ2 H2 => wipe σ2 vs = σw ∧ tt σ2 H2 fun b H3 => b = r.isSome ∧ (b = false → Gd H3) ∧ (b = true → wi1 σ2 H3 fun J1 H4 => ∃ es Gd1, r = some es ∧ Gd1 0 H4 ∧ InOk J1 g1 tt1 te vs1 σ2 es Gd1 ∧ ∀ j H, Gd1 j H → Gd H)
  stop : ∀ H, Gd H → J.stop rows.length H
end GxI
set_option Elab.async false
set_option linter.all false
set_option maxRecDepth 100000
set_option maxHeartbeats 2000000
namespace GxI
open PySem PySem.Spec PyProof.Rows L2
theorem seg_callK {M : Model} {A : Around} {R : GenEnd} {Y : Protocol} {n : Nat} {s₀ : Shared} {c c' : Code} {fs : List Frame} {s : Shared} {h g l} {k : Result → Sem PySem.Fin} (hc : ∀ p k', k' = k → Seg M A R Y n s₀ c' (M.den c') (.ret k' h g l c p [] :: fs) s) :
    Seg M A R Y n s₀ c (.call c' h g l k) fs s := seg_call fun p => hc p k rfl
theorem seg_gl2 {Xg : Cx} {A : Around} {elt tg iter tg1 iter1 : Expr} {ifs ifs1 : List Expr} {scope : Scope} {pos : Pos} {it a : Addr} {fp : List Addr} {tn : Nat → Heap → Prop} {J : It} {go : Obj} {S : List Addr} {g : Nat} {gt g1 : TG} {tt tt1 : TT} {wi1 : TI} {te : TE} {vs vs1 : List Nat} {σw : L2.St} {rows : Rows2} {pz : Nat → Bool} {yv : Nat → V} {Gd : Hp → Prop}
    (hA : Xg.A = A.over (.compLoop (Ge2 elt tg iter tg1 iter1 ifs ifs1 scope pos) 0 (.ref it) .none Xg.env) []) (hc : Xg.calm = true) (hco : Xg.env.scope.isCoroutine = false) (hpn : Xg.pn = []) (hex : Xg.ex = fp) (hxe : Xg.xe = fun _ _ => False)
    (T : Turn Xg.prog Xg.w Xg.K tg J fp it tn) (ap : SApart Xg S a fp) (haf : a ∉ fp) (hSf : ∀ b ∈ S, b ∉ fp) (pg : PG Xg tg gt) (pt : PTs Xg ifs tt) (pi1 : PI Xg tg1 iter1 wi1)
    (inn : ∀ A1 : Around, (∃ p k it1, A1 = A.over (.compLoop (Ge2 elt tg iter tg1 iter1 ifs ifs1 scope pos) 1 (.ref it1) .none Xg.env) [.ret k none (id false) (id []) (.compLoop (Ge2 elt tg iter tg1 iter1 ifs ifs1 scope pos) 0 (.ref it) .none Xg.env) p []]) → PG { Xg with A := A1 } tg1 g1 ∧ PTs { Xg with A := A1 } ifs1 tt1 ∧ PE { Xg with A := A1 } elt te)
    (hs1 : ∀ x, foldedSetIterable iter1 Xg.env x = pure x) (hv : ∀ i ∈ vs1, i ∈ vs) (TO : OutOk J gt tt wi1 g1 tt1 te vs vs1 σw rows Gd)
    (hz : ∀ f e, (flat2 rows)[f]? = some e → pz f = e.isSome ∧ ∀ v, e = some v → yv f = v) :
    ∀ (k i : Nat) (s₀ s : Shared), rows.length - i = k → i ≤ rows.length → g < s.gens.size → SameS S s₀ s → GSt Xg S a go fp tn (fun _ => Gd) σw i s →
      Seg (model Xg.prog Xg.w) A (fun n s₀ r s₁ => r = .ok .next ∧ gR Xg S a go (fun _ => Gd) σw (flat2 rows).length g n s₀ s₁) (gY Xg S a go [] (fun _ _ => True) (fun _ => Gd) σw (flat2 rows).length g pz yv) (passing pz (flat2 rows).length (off2 rows i)).length s₀
        (.compLoop (Ge2 elt tg iter tg1 iter1 ifs ifs1 scope pos) 0 (.ref it) .none Xg.env)
        ((model Xg.prog Xg.w).den (.compLoop (Ge2 elt tg iter tg1 iter1 ifs ifs1 scope pos) 0 (.ref it) .none Xg.env)) [] s := by
  have stat : ∀ {σ' : L2.St} {H' : Hp} {s' : Shared} {pl : List (Addr × Obj)}, pl.map (·.1) = S → Inv Xg ((a, go) :: pl) σ' H' s' → (∀ b ∈ fp, H' b = none) → ∀ b ∈ fp, FpOk Xg ((a, go) :: pl) H' b := fun {σ' H' s' pl} epl I' hn b hb => by
    have hbx : b ∈ Xg.ex := by rw [hex]; exact hb
    refine ⟨hn b hb, (I'.ok.exf b hbx).1, I'.ok.exfs b hbx, .inl hbx, fun x c e => (I'.ok.exf b hbx).2 x c e, fun p hp => ?_⟩
    rw [hpn] at hp
    rcases List.mem_cons.mp (show p ∈ (a, go) :: pl from hp) with e | hp
    · rw [e]; exact fun z => haf (by rw [show a = b from z]; exact hb)
    · exact fun z => hSf p.1 (by rw [← epl]; exact List.mem_map.mpr ⟨p, hp, rfl⟩) (by rw [z]; exact hb)
  intro k
  induction k with
  | zero =>
    intro i s₀ s hk hi hgs hss hst
    have hin : i = rows.length := by omega
    subst hin
    obtain ⟨H, pl, epl, I, st, nf, gd⟩ := hst
    show Seg _ A _ _ _ s₀ _ ((compTurn (Ge2 elt tg iter tg1 iter1 ifs ifs1 scope pos) 0 (.ref it) .none Xg.env).onRaise (leaving Xg.env)) [] s
    rw [turn_out, Sem.onRaise_eq_wrap]
    refine seg_bind_wrap (wpAny_standAt (seg_bind_wrap ?_))
    rw [← hA]
    refine GenW.wpAny_gsz (Nat.succ_le_of_lt hgs) (thnF (T.done Xg rfl rfl rfl hc rows.length _ s _ H (fun _ _ => False) I (stat epl I nf) st (TO.stop H gd)) fun r s6 ⟨hr, I6⟩ hg6 => ?_)
    subst hr
    exact seg_end (.ok .next) ⟨rfl, by rw [← flat_len, passing_end]; rfl, hg6, hss.pins (r := []) epl I (by rw [List.append_nil]; exact I6), H, pl, epl, I6, gd⟩
  | succ k ih =>
    intro i s₀ s hk hi hgs hss hst
    have hlt : i < rows.length := by omega
    obtain ⟨H, pl, epl, I, st, nf, gd⟩ := hst
    obtain ⟨r, hr⟩ : ∃ r, rows[i]? = some r := ⟨_, List.getElem?_eq_getElem hlt⟩
    obtain ⟨jgo, step⟩ := TO.turn i r H hr gd
    show Seg _ A _ _ _ s₀ _ ((compTurn (Ge2 elt tg iter tg1 iter1 ifs ifs1 scope pos) 0 (.ref it) .none Xg.env).onRaise (leaving Xg.env)) [] s
    rw [turn_out, Sem.onRaise_eq_wrap]
    refine seg_bind_wrap (wpAny_standAt (seg_bind_wrap ?_))
    rw [← hA]
    refine GenW.wpAny_gsz (Nat.succ_le_of_lt hgs) (thnF (T.item Xg rfl rfl rfl hc i _ s _ H (fun _ _ => False) I (stat epl I nf) st jgo) fun r' s6 ⟨u, hr', h6⟩ hg6 => ?_)
    subst hr'
    refine seg_bind_wrap ?_
    rw [← hA]
    refine GenW.wpAny_gsz hg6 (thnF h6 fun _ s7 ⟨x, H7, I7, r7, y7, st7, n7⟩ hg7 => ?_)
    have I7' := I7.pinned (stat epl I7 n7) (T.obj _ _ st7)
    refine seg_bind_wrap ?_
    rw [← hA]
    have p1 := pg.run _ s7 _ H7 x u _ I7' r7 (step x H7 y7)
    rw [hxe] at p1
    refine GenW.wpAny_gsz hg7 (thnF p1 fun _ s8 ⟨σ8, H8, I8, hw8, q8⟩ hg8 => ?_)
    refine seg_bind_wrap ?_
    rw [← hA]
    have p2 := pt.run _ s8 σ8 H8 _ I8 q8
    rw [hxe] at p2
    refine GenW.wpAny_gsz hg8 (thnF p2 fun b s9 ⟨H9, I9, hb9, q9f, q9t⟩ hg9 => ?_)
    have hwl : σw.length = σ8.length := by rw [← hw8, wipe_length]
    have fin : ∀ {s' : Shared} {H' : Hp}, Inv Xg (((a, go) :: pl) ++ pinsAt fp s7.heap) σ8 H' s' → Gd H' → GSt Xg S a go fp tn (fun _ => Gd) σw (i + 1) s' := fun {s' H'} I' nx => by
      have pin' : ∀ b ∈ fp, ∀ o, s7.heap.get? b = some o → s'.heap.get? b = some o ∧ H' b = none := fun b hb o e => let z := I'.pin (b, o) (List.mem_append_right _ (List.mem_append_right _ (mem_pinsAt hb e))); ⟨z.1, z.2.1⟩
      refine ⟨H', pl, epl, (I'.unpinned).weak hwl (fun j v e => by rw [← hw8] at e; exact (wipe_some e).1), T.keep _ _ _ st7 fun b hb o e => (pin' b hb o e).1, fun b hb => ?_, nx⟩
      obtain ⟨o, e, _⟩ := T.obj _ _ st7 b hb
      exact (pin' b hb o e).2
    cases b with
    | false =>
      have rn : r = none := by cases r with | none => rfl | some es => cases hb9
      subst rn
      rw [← off_none hr]
      simp only [Bool.false_eq_true, if_false]
      exact seg_again rfl (ih (i + 1) s₀ _ (by omega) hlt hg9 (hss.pins epl I I9) (fin I9 (q9f rfl)))
    | true =>
      simp only [if_true]
      obtain ⟨es, rfl⟩ : ∃ es, r = some es := by cases r with | none => cases hb9 | some es => exact ⟨es, rfl⟩
      refine seg_bind_wrap ?_
      rw [← hA]
      have p3 := pi1.run _ s9 σ8 H9 _ I9 (q9t rfl)
      rw [hxe] at p3
      refine GenW.wpAny_gsz hg9 (thnF p3 fun xv s10 hx hg10 => ?_)
      refine seg_bind_wrap (wpAny_standAt ?_)
      rw [hs1]
      refine seg_bind_wrap (wpAny_pure (seg_bind_wrap ?_))
      rw [← hA]
      refine wpAny_holding (GenW.wpAny_gsz hg10 (thnF hx fun itv s11 ⟨it1, fp1, tn1, J1, H11, e1, I11, T1, st1, f11, Gdq⟩ hg11 => ?_))
      subst e1
      refine seg_callK fun p kk hkk => ?_
      have hkn : kk (.ok .next) = .pure (.again (.compLoop (Ge2 elt tg iter tg1 iter1 ifs ifs1 scope pos) 0 (.ref it) .none Xg.env)) := by rw [hkk]; rfl
      clear hkk
      obtain ⟨es', Gd1, ee, gd1, IO, hG⟩ := Gdq
      cases ee
      have stO : tn (i + 1) s7.heap := st7
      have keepO : ∀ {σ' : L2.St} {H' : Hp} {s' : Shared}, Inv Xg (((a, go) :: pl) ++ pinsAt fp s7.heap) σ' H' s' → tn (i + 1) s'.heap ∧ ∀ b ∈ fp, H' b = none := fun {σ' H' s'} I' => by
        have z : ∀ b ∈ fp, ∀ o, s7.heap.get? b = some o → s'.heap.get? b = some o ∧ H' b = none := fun b hb o e =>
          let z := I'.pin (b, o) (List.mem_append_right _ (List.mem_append_right _ (mem_pinsAt hb e))); ⟨z.1, z.2.1⟩
        refine ⟨T.keep _ _ _ stO fun b hb o e => (z b hb o e).1, fun b hb => ?_⟩
        obtain ⟨o, e, _⟩ := T.obj _ _ stO b hb
        exact (z b hb o e).2
      obtain ⟨stO', nO'⟩ := keepO I11
      have f0 : ∀ b ∈ fp, b ≠ Xg.env.locals ∧ b ∉ Xg.fs ∧ (b ∈ Xg.ex ∨ Xg.s_0.heap.objs.size ≤ b) ∧ ∀ x c, Xg.env.cells.lookup x = some c → c ≠ b := fun b hb => by
        obtain ⟨_, z1, z2, z3, z4, _⟩ := stat epl I nf b hb
        exact ⟨z1, z2, z3, z4⟩
      have f1 : ∀ b ∈ fp1, b ≠ Xg.env.locals ∧ b ∉ Xg.fs ∧ (b ∈ Xg.ex ∨ Xg.s_0.heap.objs.size ≤ b) ∧ ∀ x c, Xg.env.cells.lookup x = some c → c ≠ b := fun b hb => by
        obtain ⟨_, z1, z2, z3, z4, _⟩ := f11 b hb
        exact ⟨z1, z2, z3, z4⟩
      have dis : ∀ b ∈ fp1, ∀ q ∈ ((a, go) :: pl) ++ pinsAt fp s7.heap, q.1 ≠ b := fun b hb q hq => (f11 b hb).2.2.2.2.2 q (List.mem_append_right _ hq)
      have haf1 : a ∉ fp1 := fun z => dis a z (a, go) (List.mem_append_left _ List.mem_cons_self) rfl
      have ap1 : ∀ b ∈ S, b ∉ fp1 := fun b hb z => by
        rw [← epl] at hb
        obtain ⟨q, hq, e⟩ := List.mem_map.mp hb
        exact dis b z q (List.mem_append_left _ (List.mem_cons_of_mem _ hq)) e
      have hdis : ∀ b ∈ fp1, b ∉ fp := fun b hb z => by
        obtain ⟨o, e, _⟩ := T.obj _ _ stO b z
        exact dis b hb (b, o) (List.mem_append_right _ (mem_pinsAt z e)) rfl
      have hh : Xg.calm = true → Xg.A.handled = none := fun z => I.ok.hd z
      obtain ⟨pg1, pt1, pe⟩ := inn _ ⟨p, kk, it1, rfl⟩
      have I11' := Inv.reA I11.unpinned (A.over (.compLoop (Ge2 elt tg iter tg1 iter1 ifs ifs1 scope pos) 1 (.ref it1) .none Xg.env) [.ret kk none (id false) (id []) (.compLoop (Ge2 elt tg iter tg1 iter1 ifs ifs1 scope pos) 0 (.ref it) .none Xg.env) p []]) (by rw [hA]; rfl) (fun z => by have := hh z; rw [hA] at this; exact this)
      have loop := seg_in (S := S) (g := g) (yv := yv) (pz := pz) (n₀ := (flat2 rows).length) (o := off2 rows i) (σw := σw) (vs := vs) rfl rfl rfl (by rw [hA]; rfl) hh hc hco hpn hxe T1 ap ap1 haf1 haf hdis (T.keep (i + 1)) (T.obj (i + 1)) f0 f1 pg1 pt1 pe hw8 hv IO hG
        (fun j e he => by
          have z := flat_at hr he
          obtain ⟨y1, y2⟩ := hz _ _ z
          exact ⟨(List.getElem?_eq_some_iff.mp z).1, y1, y2⟩)
        (fun s₀ s' ⟨H', pl', epl', I', stO2, nO2, gd2⟩ hg' hss' => by
          refine seg_leaf (.ok .next) ?_
          rw [hkn, ← off_some hr]
          have Ix := Inv.reA I' Xg.A (by rw [hA]; rfl) hh
          refine seg_again rfl (ih (i + 1) s₀ s' (by omega) hlt hg' hss' ⟨H', pl', epl', Ix.weak ?_ ?_, stO2, nO2, gd2⟩)
          · rw [wipe_length]; exact hwl
          · intro j v e
            rw [← hw8] at e
            by_cases hj : j ∈ vs1
            · rw [PL.wipe_in ((List.getElem?_eq_some_iff.mp (wipe_some e).1).1) (hv j hj)] at e
              cases e
            · rw [PL.wipe_get hj]
              exact (wipe_some e).1)
        _ 0 s₀ s11 rfl (Nat.zero_le _) hg11 (hss.pins epl I I11) ⟨H11, pl, epl, I11'.weak (by rw [wipe_length]) (fun j v e => (wipe_some e).1), st1, fun b hb => (f11 b hb).1, stO', nO', gd1⟩
      show Seg _ A _ _ _ s₀ _ ((compStart (Ge2 elt tg iter tg1 iter1 ifs ifs1 scope pos) 1 (.ref it1) .none Xg.env).onRaise _) _ s11
      unfold compStart
      rw [Sem.onRaise_eq_wrap]
      show Seg _ A _ _ _ s₀ _ ((ask >>= _).wrap _ _ _ _) _ s11
      refine seg_bind_wrap (wpAny_askSetting ?_)
      split
      · exact seg_again rfl loop
      · refine seg_bind_wrap (wpAny_rule ?_)
        show Seg _ A _ _ _ s₀ _ ((standAt iter1.pos >>= _).wrap _ _ _ _) _ s11
        exact seg_bind_wrap (wpAny_standAt (seg_bind_wrap (T1.self _ 0 s11 _ _ st1 (seg_again rfl loop))))
end GxI
set_option Elab.async false
set_option linter.all false
set_option maxRecDepth 100000
set_option maxHeartbeats 2000000
namespace GxI
open PySem PySem.Spec PyProof.Rows L2
theorem seg_gstart2 {Xg : Cx} {A : Around} {elt tg iter tg1 iter1 : Expr} {ifs ifs1 : List Expr} {scope : Scope} {pos : Pos} {it a : Addr} {fp : List Addr} {tn : Nat → Heap → Prop} {J : It} {go : Obj} {S : List Addr} {g : Nat} {gt g1 : TG} {tt tt1 : TT} {wi1 : TI} {te : TE} {vs vs1 : List Nat} {σw : L2.St} {rows : Rows2} {pz : Nat → Bool} {yv : Nat → V} {Gd : Hp → Prop}
    (hA : Xg.A = A.over (.compLoop (Ge2 elt tg iter tg1 iter1 ifs ifs1 scope pos) 0 (.ref it) .none Xg.env) []) (hc : Xg.calm = true) (hco : Xg.env.scope.isCoroutine = false) (hpn : Xg.pn = []) (hex : Xg.ex = fp) (hxe : Xg.xe = fun _ _ => False)
    (T : Turn Xg.prog Xg.w Xg.K tg J fp it tn) (ap : SApart Xg S a fp) (haf : a ∉ fp) (hSf : ∀ b ∈ S, b ∉ fp) (pg : PG Xg tg gt) (pt : PTs Xg ifs tt) (pi1 : PI Xg tg1 iter1 wi1)
    (inn : ∀ A1 : Around, (∃ p k it1, A1 = A.over (.compLoop (Ge2 elt tg iter tg1 iter1 ifs ifs1 scope pos) 1 (.ref it1) .none Xg.env) [.ret k none (id false) (id []) (.compLoop (Ge2 elt tg iter tg1 iter1 ifs ifs1 scope pos) 0 (.ref it) .none Xg.env) p []]) → PG { Xg with A := A1 } tg1 g1 ∧ PTs { Xg with A := A1 } ifs1 tt1 ∧ PE { Xg with A := A1 } elt te)
    (hs1 : ∀ x, foldedSetIterable iter1 Xg.env x = pure x) (hv : ∀ i ∈ vs1, i ∈ vs) (TO : OutOk J gt tt wi1 g1 tt1 te vs vs1 σw rows Gd)
    (hz : ∀ f e, (flat2 rows)[f]? = some e → pz f = e.isSome ∧ ∀ v, e = some v → yv f = v)
    (s : Shared) (hgs : g < s.gens.size) (hst : GSt Xg S a go fp tn (fun _ => Gd) σw 0 s) :
    Seg (model Xg.prog Xg.w) A (fun n s₀ r s₁ => r = .ok .next ∧ gR Xg S a go (fun _ => Gd) σw (flat2 rows).length g n s₀ s₁) (gY Xg S a go [] (fun _ _ => True) (fun _ => Gd) σw (flat2 rows).length g pz yv) (passing pz (flat2 rows).length 0).length s
      (.compStart (Ge2 elt tg iter tg1 iter1 ifs ifs1 scope pos) 0 (.ref it) .none Xg.env)
      ((model Xg.prog Xg.w).den (.compStart (Ge2 elt tg iter tg1 iter1 ifs ifs1 scope pos) 0 (.ref it) .none Xg.env)) [] s := by
  have loop := seg_gl2 (g := g) (pos := pos) (scope := scope) hA hc hco hpn hex hxe T ap haf hSf pg pt pi1 inn hs1 hv TO hz rows.length 0 s s (Nat.sub_zero _) (Nat.zero_le _) hgs (fun _ _ _ e => e) hst
  obtain ⟨H, pl, epl, I, st, nf, gd⟩ := hst
  show Seg _ A _ _ _ s _ ((compStart (Ge2 elt tg iter tg1 iter1 ifs ifs1 scope pos) 0 (.ref it) .none Xg.env).onRaise (leaving Xg.env)) [] s
  unfold compStart
  rw [Sem.onRaise_eq_wrap]
  show Seg _ A _ _ _ s _ ((ask >>= _).wrap _ _ _ _) [] s
  refine seg_bind_wrap (wpAny_askSetting ?_)
  split
  · exact seg_again rfl loop
  · first
      | exact seg_bind_wrap (wpAny_rule (seg_bind_wrap (wpAny_standAt (seg_bind_wrap (T.self _ 0 s _ _ st (seg_again rfl loop))))))
      | (refine seg_bind_wrap (wpAny_rule ?_); show Seg _ A _ _ _ s _ ((standAt iter.pos >>= _).wrap _ _ _ _) [] s; exact seg_bind_wrap (wpAny_standAt (seg_bind_wrap (T.self _ 0 s _ _ st (seg_again rfl loop)))))


abbrev ArdG2 (A : Around) (elt tg iter tg1 iter1 : Expr) (ifs ifs1 : List Expr) (scope : Scope) (pos : Pos) (it : Addr) (cenv : Env) : Around := A.in1.in1.over (.compLoop (Ge2 elt tg iter tg1 iter1 ifs ifs1 scope pos) 0 (.ref it) .none cenv) []
theorem ardG2_room {k : Nat} {A : Around} {elt tg iter tg1 iter1 : Expr} {ifs ifs1 : List Expr} {scope : Scope} {pos : Pos} {it : Addr} {cenv : Env} (hr : Room (k + 1) A) : Room k (ArdG2 A elt tg iter tg1 iter1 ifs ifs1 scope pos it cenv) := by
  obtain ⟨h1, h2, h3⟩ := hr
  refine ⟨h1, ?_, ?_⟩
  · show A.depth + 0 + 1 + 3 * k + 5 < recursionLimit
    omega
  · show A.units + 1 + 1 + 0 + 3 + 16 * k + 200 < cLine
    omega
theorem ardG2_in {k : Nat} {A : Around} {elt tg iter tg1 iter1 : Expr} {ifs ifs1 : List Expr} {scope : Scope} {pos p : Pos} {it it1 : Addr} {cenv : Env} {kk : Result → Sem PySem.Fin} (hr : Room (k + 1) A) : Room k (A.in1.in1.over (.compLoop (Ge2 elt tg iter tg1 iter1 ifs ifs1 scope pos) 1 (.ref it1) .none cenv) [.ret kk none (id false) (id []) (.compLoop (Ge2 elt tg iter tg1 iter1 ifs ifs1 scope pos) 0 (.ref it) .none cenv) p []]) := by
  obtain ⟨h1, h2, h3⟩ := hr
  refine ⟨h1, ?_, ?_⟩
  · show A.depth + 1 + 0 + 3 * k + 5 < recursionLimit
    omega
  · show A.units + 1 + 1 + 3 + 0 + 16 * k + 200 < cLine
    omega
theorem ardG2_frames {A : Around} {elt tg iter tg1 iter1 : Expr} {ifs ifs1 : List Expr} {scope : Scope} {pos : Pos} {it : Addr} {cenv : Env} {l : List Env} (h : A.frames = some l) : (ArdG2 A elt tg iter tg1 iter1 ifs ifs1 scope pos it cenv).frames = some (cenv :: l) := by
  show pushEnvs [cenv] (pushEnvs [] A.frames) = _
  rw [h]
  rfl
theorem eval_gen2 (elt tg iter tg1 iter1 : Expr) (ifs ifs1 : List Expr) (scope : Scope) (pos : Pos) (env : Env) (hco : scope.isCoroutine = false) :
    eval (Ge2 elt tg iter tg1 iter1 ifs ifs1 scope pos) env = (do
      let x ← eval iter env
      standAt iter.pos
      let x ← genFold iter env x
      let it ← holding [x] (pyIter x)
      enterFrame
      let cl ← closureFor scope env
      let code ← genexprCode env pos (env.qual ++ "<genexpr>") scope
      let bi ← builtinsFor env.globals env.builtins
      let cenv ← newFunctionEnv scope env.globals cl [(".0", it)] (env.qual ++ "<genexpr>.") none code none bi
      newGenerator (.compStart (Ge2 elt tg iter tg1 iter1 ifs ifs1 scope pos) 0 it .none cenv) "<genexpr>" (env.qual ++ "<genexpr>")) := by
  unfold Ge2
  rw [arm_eval_GeneratorExp]
  simp only [hco, Bool.false_eq_true, if_false]
  cases iter <;> rfl
theorem make2 {M : Model} {A : Around} {E : Value → Shared → Prop} {s : Shared} {env : Env} {elt target iter tg1 iter1 : Expr} {ifs ifs1 : List Expr} {scope : Scope} {cl : List (Str × Addr)} {pos : Pos} {Q : Value → Shared → Prop}
    (hco : scope.isCoroutine = false) (hclos : closureFor scope env = pure cl) (hcell : ∀ y ∈ scope.names, y.2 ≠ .cell) (h0 : scope.names.lookup (".0" : Str) = some NameKind.local) (hkind : scope.kind = .function)
    (hroom : A.depth < recursionLimit)
    (h : wpAny M A (eval iter env) (fun xv s₁ => wpAny M A (pyIter xv) (fun it s₂ => s₂.heap.NoLimit ∧
      wpAny M A (genexprCode env pos (env.qual ++ "<genexpr>") scope) (fun code s₃ => wpAny M A (builtinsFor env.globals env.builtins) (fun bi s₄ =>
        ∀ h', h'.Ns s₄.heap.objs.size (fun y => if y = ".0" then some it else none) → Heap.SameBut s₄.heap.objs.size (s₄.heap.push { cls := .type "frame", data := .dict #[] }) h' →
          Q (.ref h'.objs.size) { s₄ with
            gens := s₄.gens.push (.fresh (.compStart (Ge2 elt target iter tg1 iter1 ifs ifs1 scope pos) 0 it .none (genEnv scope cl s₄.heap.objs.size code bi env))),
            toks := s₄.toks + 1 + 1 + 1,
            heap := h'.push { cls := .type "generator", data := .fields #[.int s₄.gens.size 0, .str "<genexpr>" (s₄.toks + 1), .str (env.qual ++ "<genexpr>") (s₄.toks + 1 + 1)] } }) E s₃) E s₂) E s₁) E s)
    (hs : ∀ x, genFold iter env x = pure x) :
    wpAny M A (eval (Ge2 elt target iter tg1 iter1 ifs ifs1 scope pos) env) Q E s := by
  rw [eval_gen2 _ _ _ _ _ _ _ _ _ _ hco, hclos]
  refine wpAny_bind (wpAny_mono h (fun xv s₁ h₁ => ?_) fun _ _ e => e)
  refine wpAny_bind (wpAny_standAt (wpAny_bind (wpAny_of_eq (hs xv) ?_)))
  refine wpAny_bind (wpAny_holding (wpAny_mono h₁ (fun it s₂ h₂ => ?_) fun _ _ e => e))
  refine wpAny_bind (wpAny_enterFrame h₂.1 hroom (wpAny_bind (wpAny_pure ?_)))
  refine wpAny_bind (wpAny_mono h₂.2 (fun code s₃ h₃ => ?_) fun _ _ e => e)
  refine wpAny_bind (wpAny_mono h₃ (fun bi s₄ h₄ => ?_) fun _ _ e => e)
  have hbinds : ∀ y ∈ ([((".0" : Str), it)] : List (Str × Value)), scope.names.lookup y.1 = some NameKind.local := by
    intro y hy
    rcases List.mem_cons.mp hy with rfl | hy
    · exact h0
    · cases hy
  refine wpAny_bind (wpAny_newFunctionEnv hcell hbinds (fun h' hn' hs' => ?_) hkind)
  have e : (fun y : Str => ([((".0" : Str), it)] : List (Str × Value)).reverse.lookup y) = fun y : Str => if y = (".0" : Str) then some it else none := by
    funext y
    by_cases hy : y = ".0"
    · subst hy; simp
    · have : (y == (".0" : Str)) = false := by simpa using hy
      simp [List.lookup, this, hy]
  rw [e] at hn'
  simp only [newGenerator, newFields]
  refine wpAny_bind (wpAny_newGen (wpAny_bind (wpAny_mkText (wpAny_bind (wpAny_mkText (wpAny_newObj_type ?_ (by size_fits)))))))
  exact h₄ h' hn' hs'
section
variable {X : Cx} {pins : List (Addr × Obj)} {σ : L2.St} {H : Hp} {s : Shared}

/-- the reading of a generator expression -/
def tGx2 (wi : TI) (g : TG) (tt : TT) (wi1 : TI) (g1 : TG) (tt1 : TT) (te : TE) (vs vs1 : List Nat) (P : Addr) (R : Nat → (Nat → Bool) → (Nat → V) → (Nat → Hp → Prop) → Prop) : L2.St → Hp → Prop := fun σ H =>
  wi σ H fun J H1 => GxR.TabG H1 P ∧ ∀ H2, GxR.Tabbed P H1 H2 → ∃ rows pz yv Gd, Gd H2 ∧ OutOk J g tt wi1 g1 tt1 te vs vs1 (wipe σ vs) rows Gd ∧ (∀ f e, (flat2 rows)[f]? = some e → pz f = e.isSome ∧ ∀ v, e = some v → yv f = v) ∧ R (flat2 rows).length pz yv (fun _ => Gd)

theorem gx_eval2 {k : Nat} {c P : Addr} {elt tg iter tg1 iter1 : Expr} {ifs ifs1 : List Expr} {scope : Scope} {own : List (Str × Nat)} {vs1 : List Nat} {gpos : Pos} {wi wi1 : TI} {g g1 : TG} {tt tt1 : TT} {te : TE} {R : Nat → (Nat → Bool) → (Nat → V) → (Nat → Hp → Prop) → Prop} {Q' : Value → Shared → Prop}
    (hr : Room (k + 1) X.A) (hc : X.calm = true) (hN : X.N.Nodup) (TB : GxR.TabB X.base X.mg c P) (hcode : X.env.code = .ref c) (gs : GxS X.env scope) (ok : BlkOk X.N X.env.scope scope own)
    (hi : PI X tg iter wi)
    (hg : ∀ (A : Around) (s : Shared) (H : Hp) (C : Addr) (cd : Value) (cl : List (Str × Addr)) (fp : List Addr), Room k A → PG (gcx X A s H (genEnv scope cl C cd builtinsNs X.env) fp) tg g)
    (ht : ∀ (A : Around) (s : Shared) (H : Hp) (C : Addr) (cd : Value) (cl : List (Str × Addr)) (fp : List Addr), Room k A → PTs (gcx X A s H (genEnv scope cl C cd builtinsNs X.env) fp) ifs tt)
    (hi1 : ∀ (A : Around) (s : Shared) (H : Hp) (C : Addr) (cd : Value) (cl : List (Str × Addr)) (fp : List Addr), Room k A → PI (gcx X A s H (genEnv scope cl C cd builtinsNs X.env) fp) tg1 iter1 wi1)
    (hg1 : ∀ (A : Around) (s : Shared) (H : Hp) (C : Addr) (cd : Value) (cl : List (Str × Addr)) (fp : List Addr), Room k A → PG (gcx X A s H (genEnv scope cl C cd builtinsNs X.env) fp) tg1 g1)
    (ht1 : ∀ (A : Around) (s : Shared) (H : Hp) (C : Addr) (cd : Value) (cl : List (Str × Addr)) (fp : List Addr), Room k A → PTs (gcx X A s H (genEnv scope cl C cd builtinsNs X.env) fp) ifs1 tt1)
    (he : ∀ (A : Around) (s : Shared) (H : Hp) (C : Addr) (cd : Value) (cl : List (Str × Addr)) (fp : List Addr), Room k A → PE (gcx X A s H (genEnv scope cl C cd builtinsNs X.env) fp) elt te) (hv : ∀ i ∈ vs1, i ∈ own.map (·.2)) (hs1 : ∀ env x, foldedSetIterable iter1 env x = pure x)
    (hs : ∀ v, genFold iter X.env v = pure v) (I : Inv X pins σ H s) (h : tGx2 wi g tt wi1 g1 tt1 te (own.map (·.2)) vs1 P R σ H)
    (hQ : ∀ n pz yv Gd Xg a go g s5, R n pz yv Gd → ReadyG X pins σ (own.map (·.2)) Xg a go [] (fun _ _ => True) Gd n g pz yv s5 → Q' (.ref a) s5) :
    wpAny (model X.prog X.w) X.A (eval (Ge2 elt tg iter tg1 iter1 ifs ifs1 scope gpos) X.env) Q' X.xe s := by
  have hfree : ∀ y ∈ scope.names, y.2 = .free → ∃ c, X.env.cells.lookup y.1 = some c := fun y hy e => by
    rcases ok.free y hy e with k | k
    · exact I.ok.has _ (.inl k)
    · exact I.ok.has _ (.inr k)
  refine make2 gs.co (closure_ok hfree) gs.nocell gs.dot ok.kind (by have := hr.dp; omega) ?_ hs
  refine thn (hi.run pins s σ H _ I h) fun xv s1 hx => thn hx fun itv s2 h2 => ?_
  obtain ⟨it, fp, tn, J, H1, e, I1, T, st2, f2, ⟨ps, hP, ht0⟩, q1⟩ := h2
  subst e
  refine ⟨I1.nolimit, ?_⟩
  have hPs : s2.heap.get? P = some { cls := .none, data := .fields ps } := I1.hok P _ hP
  have cd : PySem.W.CodeHd s2.heap c P := TB.code.keeps fun b u e => I1.bk b u e
  have fpP : ∀ b ∈ fp, b ≠ P := fun b hb z => by
    have := (f2 b hb).1
    rw [z, hP] at this
    cases this
  have cont : ∀ (code : Value) (h3 : Heap) (tk : Nat) (ps' : Array Value), Heap.ExtBut P s2.heap h3 → s2.heap.objs.size ≤ h3.objs.size → h3.get? P = some { cls := .none, data := .fields ps' } → (∃ more, ps' = ps ++ more) → TriplesOk ps'.toList →
      wpAny (model X.prog X.w) X.A (builtinsFor X.env.globals X.env.builtins) (fun bi s₄ =>
        ∀ h', h'.Ns s₄.heap.objs.size (fun y => if y = ".0" then some (.ref it) else none) → Heap.SameBut s₄.heap.objs.size (s₄.heap.push { cls := .type "frame", data := .dict #[] }) h' →
          Q' (.ref h'.objs.size) { s₄ with
            gens := s₄.gens.push (.fresh (.compStart (Ge2 elt tg iter tg1 iter1 ifs ifs1 scope gpos) 0 (.ref it) .none (genEnv scope (cloFrom X.env.cells scope.names []) s₄.heap.objs.size code bi X.env))),
            toks := s₄.toks + 1 + 1 + 1,
            heap := h'.push { cls := .type "generator", data := .fields #[.int s₄.gens.size 0, .str "<genexpr>" (s₄.toks + 1), .str (X.env.qual ++ "<genexpr>") (s₄.toks + 1 + 1)] } }) X.xe { s2 with heap := h3, toks := tk } := by
    intro code h3 tk ps' hx hsz hP3 hmore ht3
    obtain ⟨bm, ob, e1, e2, e3, e4, e5, e6, e7, e8⟩ := TB.bm
    have keep3 : ∀ b u, b ≠ P → s2.heap.get? b = some u → h3.get? b = some u := fun b u hb e => hx b u hb e
    refine wpAny_builtinsFor (m := X.mg) (by rw [I1.ok.glob]; exact (I1.mod.glob.keeps I1.bk).extBut hx TB.gP) e1 e2 (keep3 _ _ e4 (I1.bk _ _ e5)) e6 e7 e8 ?_
    obtain ⟨more, em⟩ := hmore
    -- the table has grown
    have I4 := GxR.inv_tab (more := more) (h' := h3) (g' := s2.gens) (d' := s2.drawn) (t' := tk) I1 hP keep3 (by rw [← em]; exact hP3) I1.bare
    generalize hs4 : ({ s2 with heap := h3, gens := s2.gens, drawn := s2.drawn, toks := tk } : Shared) = s4 at I4
    have eh4 : s4.heap = h3 := by rw [← hs4]
    intro h' hn' hs'
    have tab : GxR.Tabbed P H1 (upd H1 P (.tbl (ps ++ more))) := ⟨⟨ps ++ more, upd_same, by rw [← em]; exact ht3⟩, fun b hb => upd_ne hb⟩
    obtain ⟨rows, pz, yv, Gd, gd0, TO, hz, hR⟩ := q1 _ tab
    generalize hH2 : upd H1 P (.tbl (ps ++ more)) = H2 at I4 gd0 tab
    have st4 : tn 0 s4.heap := T.keep _ _ _ st2 fun b hb o e => by rw [eh4]; exact keep3 b o (fpP b hb) e
    have f4 : ∀ b ∈ fp, FpOk X pins H2 b ∧ b < s4.heap.objs.size := fun b hb => by
      obtain ⟨o, e, _⟩ := T.obj _ _ st4 b hb
      refine ⟨⟨?_, (f2 b hb).2⟩, Heap.lt_size e⟩
      rw [tab.2 b (fpP b hb)]
      exact (f2 b hb).1
    have hsz5 : h'.objs.size = s4.heap.objs.size + 1 := by rw [hs'.1, Heap.size_push]
    have keep' : ∀ b o, s4.heap.get? b = some o → h'.get? b = some o := fun b o e => hs'.extBut b o (Nat.ne_of_lt (Heap.lt_size e)) (Heap.get?_push_of_some _ e)
    generalize hgo : ({ cls := .type "generator", data := .fields #[.int s4.gens.size 0, .str "<genexpr>" (s4.toks + 1), .str (X.env.qual ++ "<genexpr>") (s4.toks + 1 + 1)] } : Obj) = go
    have keep5 : ∀ b o, s4.heap.get? b = some o → (h'.push go).get? b = some o := fun b o e => Heap.get?_push_of_some _ (keep' b o e)
    generalize hcenv : genEnv scope (cloFrom X.env.cells scope.names []) s4.heap.objs.size code builtinsNs X.env = cenv
    have hfr := I4.ok.frames
    have hAf : (ArdG2 X.A elt tg iter tg1 iter1 ifs ifs1 scope gpos it cenv).frames = some (cenv :: X.stack) := ardG2_frames hfr
    have hrg : Room k (ArdG2 X.A elt tg iter tg1 iter1 ifs ifs1 scope gpos it cenv) := ardG2_room hr
    have cL : cenv.locals = s4.heap.objs.size := by rw [← hcenv]; rfl
    have cC : cenv.cells = cloFrom X.env.cells scope.names [] := by rw [← hcenv]; rfl
    have cSc : cenv.scope = scope := by rw [← hcenv]; rfl
    have IG : Inv (gcx X (ArdG2 X.A elt tg iter tg1 iter1 ifs ifs1 scope gpos it cenv) s4 H2 cenv fp) [] (wipe σ (own.map (·.2))) H2
        { s4 with heap := h'.push go, gens := s4.gens.push (.fresh (.compStart (Ge2 elt tg iter tg1 iter1 ifs ifs1 scope gpos) 0 (.ref it) .none cenv)), toks := s4.toks + 1 + 1 + 1 } := by
      have z := gen_start (A := ArdG2 X.A elt tg iter tg1 iter1 ifs ifs1 scope gpos it cenv) (fp := fp) (code := code) (g' := s4.gens.push (.fresh (.compStart (Ge2 elt tg iter tg1 iter1 ifs ifs1 scope gpos) 0 (.ref it) .none cenv))) (h' := h'.push go) (tk := s4.toks + 1 + 1 + 1) I4 ok gs hN f4 (I4.ok.hd hc) (by rw [hcenv]; exact hAf) (hn'.push _) keep5 (I4.bare.push rfl)
      rw [hcenv] at z
      exact z
    generalize hs5 : ({ s4 with heap := h'.push go, gens := s4.gens.push (.fresh (.compStart (Ge2 elt tg iter tg1 iter1 ifs ifs1 scope gpos) 0 (.ref it) .none cenv)), toks := s4.toks + 1 + 1 + 1 } : Shared) = s5 at IG
    have e5h : s5.heap = h'.push go := by rw [← hs5]
    have e5g : s5.gens = s4.gens.push (.fresh (.compStart (Ge2 elt tg iter tg1 iter1 ifs ifs1 scope gpos) 0 (.ref it) .none cenv)) := by rw [← hs5]
    have ha5 : s5.heap.get? h'.objs.size = some go := by rw [e5h]; exact Heap.get?_push_size _ (by rw [← hgo]; rfl)
    have sz5 : s5.heap.objs.size = s4.heap.objs.size + 1 + 1 := by rw [e5h, Heap.size_push, hsz5]
    have hcl : ∀ x cc, cenv.cells.lookup x = some cc → cc < s4.heap.objs.size := fun x cc e => by
      rw [cC] at e
      exact (clo_mem I4 ok e).2.1
    have goc : ∀ v, go.data ≠ .cell v := fun v z => by rw [← hgo] at z; cases z
    have afp : h'.objs.size ∉ fp := fun hm => by
      exact nb5 hsz5 (f4 _ hm).2
    have pg := hg (ArdG2 X.A elt tg iter tg1 iter1 ifs ifs1 scope gpos it cenv) s4 H2 s4.heap.objs.size code (cloFrom X.env.cells scope.names []) fp hrg
    have pt := ht (ArdG2 X.A elt tg iter tg1 iter1 ifs ifs1 scope gpos it cenv) s4 H2 s4.heap.objs.size code (cloFrom X.env.cells scope.names []) fp hrg
    have pi1 := hi1 (ArdG2 X.A elt tg iter tg1 iter1 ifs ifs1 scope gpos it cenv) s4 H2 s4.heap.objs.size code (cloFrom X.env.cells scope.names []) fp hrg
    have pgi := fun A1 => hg1 A1 s4 H2 s4.heap.objs.size code (cloFrom X.env.cells scope.names []) fp
    have pti := fun A1 => ht1 A1 s4 H2 s4.heap.objs.size code (cloFrom X.env.cells scope.names []) fp
    have pe := fun A1 => he A1 s4 H2 s4.heap.objs.size code (cloFrom X.env.cells scope.names []) fp
    --(ArdG2 X.A elt tg iter tg1 iter1 ifs ifs1 scope gpos it cenv) s4 H2 s4.heap.objs.size code (cloFrom X.env.cells scope.names []) fp hrg
    rw [hcenv] at pg pt pi1 pgi pti pe
    refine hQ (flat2 rows).length pz yv (fun _ => Gd) (gcx X (ArdG2 X.A elt tg iter tg1 iter1 ifs ifs1 scope gpos it cenv) s4 H2 cenv fp) h'.objs.size go s4.gens.size s5 hR ⟨?_, rfl, fun h e => ⟨go, _, _, e, by rw [← hgo], by rw [← hgo], by rw [← hgo]⟩, ha5, rfl, rfl, ?_⟩
    · -- ready
      intro S pl s6 epl eg6 eo6 k6 hp6
      have ap : SApart (gcx X (ArdG2 X.A elt tg iter tg1 iter1 ifs ifs1 scope gpos it cenv) s4 H2 cenv fp) S h'.objs.size fp := by
        have big : ∀ b ∈ S, s5.heap.objs.size ≤ b := fun b hb => by
          rw [← epl] at hb
          obtain ⟨p, hp, e⟩ := List.mem_map.mp hb
          rw [← e]
          exact (hp6 p hp).1
        refine ⟨fun b hb => ?_, fun b hb z => ?_, fun b hb x cc e z => ?_, fun b hb z => ?_, fun b hb z => ?_⟩
        · exact nb1 sz5 (big b hb)
        · have z : b = cenv.locals := z
          rw [cL] at z
          have z2 := nb1' sz5 (big b hb)
          rw [z] at z2
          exact Nat.lt_irrefl _ z2
        · exact nb3 sz5 (big b hb) (hcl x cc e) z
        · exact nb4 sz5 (big b hb) hsz5 z
        · exact nb3 sz5 (big b hb) (f4 b z).2 rfl
      refine ⟨⟨ap.size, ap.loc, ap.cell, ap.gen, fun b hb z => by cases z⟩, ?_⟩
      have I6 : Inv (gcx X (ArdG2 X.A elt tg iter tg1 iter1 ifs ifs1 scope gpos it cenv) s4 H2 cenv fp) [] (wipe σ (own.map (·.2))) H2 s6 := by
        have z := IG.kept (h' := s6.heap) (t' := s6.toks) k6
        obtain ⟨hh6, g6, d6, t6, o6⟩ := s6
        have eg6 : g6 = s5.gens := eg6
        have eo6 : o6 = s5.os := eo6
        subst eg6 eo6
        refine IG.call' (s' := ⟨hh6, s5.gens, d6, t6, s5.os⟩) (ch := []) rfl (Un.kept k6) (IG.hok.kept k6) IG.bare fun b hb => by cases hb
      have I7 : Inv (gcx X (ArdG2 X.A elt tg iter tg1 iter1 ifs ifs1 scope gpos it cenv) s4 H2 cenv fp) ((h'.objs.size, go) :: pl) (wipe σ (own.map (·.2))) H2 s6 := by
        refine I6.pins_of fun p hp => ?_
        have big : s4.heap.objs.size < p.1 ∧ s6.heap.get? p.1 = some p.2 ∧ ∀ v, p.2.data ≠ .cell v := by
          rcases List.mem_cons.mp hp with e | hp
          · rw [e]
            exact ⟨nb6 hsz5, k6 _ _ ha5, goc⟩
          · obtain ⟨z1, z2, z3⟩ := hp6 p hp
            exact ⟨nb1' sz5 z1, z2, z3⟩
        obtain ⟨z1, z2, z3⟩ := big
        refine ⟨z2, I4.hok.fresh (Nat.le_of_lt z1), ?_, ?_, z3⟩
        · show p.1 ≠ cenv.locals
          rw [cL]
          exact fun z => Nat.lt_irrefl _ (by rw [z] at z1; exact z1)
        · intro hb
          obtain ⟨_, o, ho, _⟩ := Heap.FunFrames.mem I4.stack hb
          exact Nat.lt_irrefl _ (Nat.lt_trans z1 (Heap.lt_size ho))
      have hfree : ∀ b ∈ fp, H2 b = none := fun b hb => (f4 b hb).1.1
      have st6 : tn 0 s6.heap := T.keep _ _ _ st4 fun b hb o e => k6 b o (by rw [e5h]; exact keep5 b o e)
      have gst : GSt (gcx X (ArdG2 X.A elt tg iter tg1 iter1 ifs ifs1 scope gpos it cenv) s4 H2 cenv fp) S h'.objs.size go fp tn (fun _ => Gd) (wipe σ (own.map (·.2))) 0 s6 := ⟨H2, pl, epl, I7, st6, hfree, gd0⟩
      have gz : s4.gens.size < s6.gens.size := by rw [eg6, e5g, Array.size_push]; exact Nat.lt_succ_self _
      refine ⟨⟨0, gst.ed⟩, gz, .fresh (.compStart (Ge2 elt tg iter tg1 iter1 ifs ifs1 scope gpos) 0 (.ref it) .none cenv), by rw [eg6, e5g]; exact Array.getElem?_push_size .., fun s'' k => ⟨rfl, ?_⟩⟩
      rw [Nat.sub_zero]
      exact seg_gstart2 (A := X.A.in1.in1) (Xg := gcx X (ArdG2 X.A elt tg iter tg1 iter1 ifs ifs1 scope gpos it cenv) s4 H2 cenv fp) rfl hc (by show cenv.scope.isCoroutine = false; rw [cSc]; exact gs.co) rfl rfl rfl T ap afp (fun b hb => ap.fp b hb) pg pt pi1 (fun A1 hA1 => by
        obtain ⟨p, kk, it1, rfl⟩ := hA1
        have hr1 := ardG2_in (it := it) (it1 := it1) (p := p) (kk := kk) (elt := elt) (tg := tg) (iter := iter) (tg1 := tg1) (iter1 := iter1) (ifs := ifs) (ifs1 := ifs1) (scope := scope) (pos := gpos) (cenv := cenv) hr
        exact ⟨pgi _ hr1, pti _ hr1, pe _ hr1⟩) (fun x => hs1 _ x) hv TO hz s'' (Nat.lt_of_lt_of_le gz k.gsz) (gst.kp T rfl ap k)
    · -- back
      intro S s' i hed
      obtain ⟨H', pl, epl, I', gd⟩ := hed
      refine ⟨H', ?_, gd⟩
      refine I4.call' (ch := fp) ?_ I'.base I'.hok I'.bare fun b hb => ⟨(f4 b hb).1.2.2.2.1, (f4 b hb).1.2.1, (f4 b hb).1.2.2.2.2.1, (f4 b hb).1.2.2.2.2.2⟩
      exact I'.os
  cases hf : codeAmong gpos ps.toList with
  | none =>
    refine wpAny_genexprCodeX hcode (cd.code hPs ht0) (cd.tab hPs) hf fun c' h' tk hx hge hlt hco' _ htab' _ => ?_
    obtain ⟨o1, vs, f1, tf, fl, tg, inF, tx, tt, op, _, _, _, _, _, _, _, _, _, htr, _⟩ := hco'
    exact cont _ h' tk _ hx (Nat.le_trans hge (Nat.le_of_lt hlt)) htab'.2 ⟨_, rfl⟩ htr
  | some cv =>
    refine wpAny_genexprCode_hit hcode (cd.code hPs ht0) hf ?_
    exact cont cv s2.heap s2.toks ps (Heap.ExtBut.refl _ _) (Nat.le_refl _) hPs ⟨#[], by simp⟩ ht0
end
end GxI
set_option Elab.async false
set_option linter.all false
set_option maxRecDepth 100000
set_option maxHeartbeats 2000000
namespace GxI
open PySem PySem.Spec PyProof.Rows L2
section
variable {X : Cx} {pins : List (Addr × Obj)} {σ : L2.St} {H : Hp} {s : Shared}
def tGxC2 (wi : TI) (g : TG) (tt : TT) (wi1 : TI) (g1 : TG) (tt1 : TT) (te : TE) (vs vs1 : List Nat) (P : Addr) (r : VK → Nat → (Nat → Bool) → (Nat → V) → (Nat → Hp → Prop) → Prop) : TE := fun σ H Q => tGx2 wi g tt wi1 g1 tt1 te vs vs1 P (r Q) σ H
theorem pe_gx2 {k : Nat} {c P : Addr} {f : Str} {id : String} {r : VK → Nat → (Nat → Bool) → (Nat → V) → (Nat → Hp → Prop) → Prop} {elt tg iter tg1 iter1 : Expr} {ifs ifs1 : List Expr} {scope : Scope} {own : List (Str × Nat)} {vs1 : List Nat} {gpos p pos : Pos} {wi wi1 : TI} {g g1 : TG} {tt tt1 : TT} {te : TE}
    (B : GxB X f id r) (hgl : Gl X f) (hm : X.mg f = none) (hr : Room (k + 1) X.A) (hc : X.calm = true) (hN : X.N.Nodup) (TB : GxR.TabB X.base X.mg c P) (hcode : X.env.code = .ref c) (gs : GxS X.env scope) (ok : BlkOk X.N X.env.scope scope own)
    (hi : PI X tg iter wi)
    (hg : ∀ (A : Around) (s : Shared) (H : Hp) (C : Addr) (cd : Value) (cl : List (Str × Addr)) (fp : List Addr), Room k A → PG (gcx X A s H (genEnv scope cl C cd builtinsNs X.env) fp) tg g)
    (ht : ∀ (A : Around) (s : Shared) (H : Hp) (C : Addr) (cd : Value) (cl : List (Str × Addr)) (fp : List Addr), Room k A → PTs (gcx X A s H (genEnv scope cl C cd builtinsNs X.env) fp) ifs tt)
    (hi1 : ∀ (A : Around) (s : Shared) (H : Hp) (C : Addr) (cd : Value) (cl : List (Str × Addr)) (fp : List Addr), Room k A → PI (gcx X A s H (genEnv scope cl C cd builtinsNs X.env) fp) tg1 iter1 wi1)
    (hg1 : ∀ (A : Around) (s : Shared) (H : Hp) (C : Addr) (cd : Value) (cl : List (Str × Addr)) (fp : List Addr), Room k A → PG (gcx X A s H (genEnv scope cl C cd builtinsNs X.env) fp) tg1 g1)
    (ht1 : ∀ (A : Around) (s : Shared) (H : Hp) (C : Addr) (cd : Value) (cl : List (Str × Addr)) (fp : List Addr), Room k A → PTs (gcx X A s H (genEnv scope cl C cd builtinsNs X.env) fp) ifs1 tt1)
    (he : ∀ (A : Around) (s : Shared) (H : Hp) (C : Addr) (cd : Value) (cl : List (Str × Addr)) (fp : List Addr), Room k A → PE (gcx X A s H (genEnv scope cl C cd builtinsNs X.env) fp) elt te)
    (hv : ∀ i ∈ vs1, i ∈ own.map (·.2)) (hs1 : ∀ env x, foldedSetIterable iter1 env x = pure x)
    (hs : ∀ v, genFold iter X.env v = pure v := by intro _; rfl) (hn : f ≠ "__name__" := by decide) (hd : (f == ("__debug__" : Str)) = false := by decide)
    (hst : starEach [Ge2 elt tg iter tg1 iter1 ifs ifs1 scope gpos] X.env = (false, eval (Ge2 elt tg iter tg1 iter1 ifs ifs1 scope gpos) X.env) :: starEach [] X.env := by rfl) :
    PE X (.Call (.Name f p) [Ge2 elt tg iter tg1 iter1 ifs ifs1 scope gpos] [] pos) (tGxC2 wi g tt wi1 g1 tt1 te (own.map (·.2)) vs1 P r) := by
  refine ⟨fun pins s σ H Q I h => ?_⟩
  refine wpAny_Call_Name_kw (ld_blt I hgl hm B.boot ?_ hn hd)
  refine PyProof.Rows.callWith_builtin1 ?_ hst (by rfl)
  rw [hst]
  show wpAny _ _ (spliced ((false, eval (Ge2 elt tg iter tg1 iter1 ifs ifs1 scope gpos) X.env) :: backTo pos (starEach [] X.env))) _ _ s
  refine Calls.spliced_cons (gx_eval2 (k := k) hr hc hN TB hcode gs ok hi hg ht hi1 hg1 ht1 he hv hs1 hs I h fun n pz yv Gd Xg a go g s5 R Y => ?_)
  refine Calls.spliced_nil ?_
  exact B.run R Y
end
end GxI
namespace PL
open PySem PySem.Spec PyProof.Rows L2
open LamX (ExtN Tabs TabS)
theorem pass_filter {α : Type} (bs : List (Option α)) (pz : Nat → Bool) (yv : Nat → α) (h : ∀ f e, bs[f]? = some e → pz f = e.isSome ∧ ∀ v, e = some v → yv f = v) : (passing pz bs.length 0).map yv = bs.filterMap id := by
  have key : ∀ (bs : List (Option α)) (pz : Nat → Bool) (yv : Nat → α), (∀ f e, bs[f]? = some e → pz f = e.isSome ∧ ∀ v, e = some v → yv f = v) → ((List.range bs.length).filter pz).map yv = bs.filterMap id := by
    intro bs
    induction bs with
    | nil => intros; rfl
    | cons b r ih =>
      intro pz yv h
      have h0 := h 0 b (by simp)
      have ih' := ih (fun i => pz (i + 1)) (fun i => yv (i + 1)) fun f e he => h (f + 1) e (by simpa using he)
      rw [List.length_cons, List.range_succ_eq_map, List.filter_cons, List.filterMap_cons, List.filter_map]
      have e2 : ((List.filter (pz ∘ Nat.succ) (List.range r.length)).map Nat.succ).map yv = r.filterMap id := by
        rw [List.map_map]
        exact ih'
      cases b with
      | none =>
        have : pz 0 = false := h0.1
        rw [this]
        simpa using e2
      | some x =>
        have : pz 0 = true := h0.1
        rw [this]
        simp only [if_true, List.map_cons, id]
        rw [e2, h0.2 x rfl]
  unfold passing
  rw [List.drop_zero]
  exact key bs pz yv h
/-- the elements of two clauses -/
def wGen2 {α : Type} (toD : α → PyData) (wi : PWs) (g : GD) (wt : PWB) (wi1 : PWs) (g1 : GD) (wt1 : PWB) (we : PW) (vs vs1 : List Nat) (R : List α → PyData) : PW := fun ρ Q E => NoOwn vs ρ ∧ wi ρ (fun ds => ∃ rows : List (Option (List (Option α))),
  All2 (fun d orow => g d (wipeE ρ vs) fun ρ2 => wt ρ2 (fun k => match orow with
    | some row => k = true ∧ wi1 ρ2 (fun es => All2 (fun e ob => g1 e (wipeE ρ2 vs1) fun ρ3 => wt1 ρ3 (fun k => match ob with | some y => k = true ∧ we ρ3 (fun z => z = toD y) (fun _ => False) | none => k = false) (fun _ => False)) es row) (fun _ => False)
    | none => k = false) (fun _ => False)) ds rows ∧ Q (R ((rows.flatMap fun r => r.getD []).filterMap id))) E
theorem mono_Gen2 {α : Type} {toD : α → PyData} {wi wi1 : PWs} {g g1 : GD} {wt wt1 : PWB} {we : PW} {vs vs1 : List Nat} {R : List α → PyData} (mi : Mono wi) : Mono (wGen2 toD wi g wt wi1 g1 wt1 we vs vs1 R) := fun ρ Q Q' E E' hq he h =>
  ⟨h.1, mi _ _ _ _ _ (fun ds ⟨bs, h1, h2⟩ => ⟨bs, h1, hq _ h2⟩) he h.2⟩
section
variable {T : Tb} {X : Cx} {W : WX} {pos p gpos : Pos} {e a b c : Expr} {K : PySem.W.Frag} {G G2 : Gh} {ρ ρ2 : En} {σ σ2 : L2.St} {H H' : Hp}
theorem in_ok {α : Type} {toD : α → PyData} {toV : α → V} (hTV : ∀ K H v y, Da K H v (toD y) → v = toV y) {g : GD} {wt : PWB} {we : PW} {sl vs : List Nat} (hsl : ∀ i ∈ sl, i ∈ vs)
    (mg : ∀ d ρ Q Q', (∀ r, Q r → Q' r) → g d ρ Q → g d ρ Q') (kg : ∀ d ρ Q, g d ρ Q → g d ρ fun ρ' => Q ρ' ∧ Off sl ρ ρ' ∧ Shd sl ρ') (mt : Mono wt) (me : Mono we) {J : It} {ds : List PyData} {bs : List (Option α)} (r : Rep T K G ρ σ H) (no : NoOwn vs ρ) (wk : WkJ K (hide G.O H) J ds)
    (h1 : All2 (fun d ob => g d (wipeE ρ vs) fun ρ2 => wt ρ2 (fun k => match ob with | some y => k = true ∧ we ρ2 (fun z => z = toD y) (fun _ => False) | none => k = false) (fun _ => False)) ds bs) :
    GxI.InOk J (liftG T K sl g) (liftB T K W0 wt) (lift T K W0 we) vs σ (bs.map fun o => o.map toV) (fun _ H' => Rep T K ⟨hide G.O H, G.O, G.fl⟩ ρ σ H') := by
  refine ⟨fun i e H3 hi r3 => ?_, fun H3 r3 => ?_⟩
  · have dm : ∀ a ∈ G.O, H3 a ≠ none := fun a ha z => by obtain ⟨o, e, _⟩ := r3.dom a ha; rw [z] at e; cases e
    obtain ⟨wk1, wk2⟩ := wk G.O H3 r3.ext dm
    rw [List.getElem?_map] at hi
    obtain ⟨ob, hob, rfl⟩ : ∃ ob, bs[i]? = some ob ∧ ob.map toV = e := by
      cases z : bs[i]? with
      | none => rw [z] at hi; cases hi
      | some ob => rw [z] at hi; exact ⟨ob, rfl, Option.some.inj hi⟩
    have hl : i < ds.length := by rw [h1.length]; exact (List.getElem?_eq_some_iff.mp hob).1
    obtain ⟨jgo, yld⟩ := wk1 i ds[i] (List.getElem?_eq_getElem hl)
    refine ⟨jgo, fun x H4 hy => ?_⟩
    obtain ⟨al, hx⟩ := yld x H4 hy
    have r4 := r3.alloc al
    obtain ⟨ob', hob', hR⟩ := h1.get (List.getElem?_eq_getElem hl)
    rw [hob] at hob'
    cases hob'
    refine ⟨_, _, _, (r4.rebase.wipe vs), hx, mg _ _ _ _ (fun ρ2 h2 σ2 r5 w5 => ⟨?_, ?_⟩) (kg _ _ _ hR)⟩
    · rw [w5 vs hsl, wipe_wipe]
    · obtain ⟨h2, off, _⟩ := h2
      have hw5 : L2.wipe σ2 vs = L2.wipe σ vs := by rw [w5 vs hsl, wipe_wipe]
      have offv : Off vs ρ ρ2 := fun j hj => by rw [off j (fun z => hj (hsl j z)), wipeE_get hj]
      have back : ∀ {H6 : Hp}, Rep T K ⟨hide G.O H4, G.O, G.fl⟩ ρ2 σ2 H6 → Rep T K ⟨hide G.O H, G.O, G.fl⟩ ρ σ H6 := fun {H6} r6 => r4.unwipe r6 no offv hw5
      refine liftB_intro mt r5 (mt _ _ _ _ _ (fun kk hk H6 r6 e6 => ?_) (fun _ z => z.elim) h2)
      cases ob with
      | none =>
        have hk : kk = false := hk
        subst hk
        exact ⟨rfl, fun _ => back r6, fun z => Bool.noConfusion z⟩
      | some y =>
        obtain ⟨hk, hwe⟩ := hk
        subst hk
        refine ⟨rfl, fun z => Bool.noConfusion z, fun _ => ?_⟩
        refine lift_intro me r6 (me _ _ _ _ _ (fun z hz v H7 r7 e7 a7 => ?_) (fun _ z => z.elim) hwe)
        subst hz
        exact ⟨by rw [hTV _ _ _ _ a7]; rfl, back r7⟩
  · have dm : ∀ a ∈ G.O, H3 a ≠ none := fun a ha z => by obtain ⟨o, e, _⟩ := r3.dom a ha; rw [z] at e; cases e
    exact (wk G.O H3 r3.ext dm).2 _ (by rw [List.length_map, h1.length]; exact Nat.le_refl _)
def rowsV {α : Type} (toV : α → V) (rows : List (Option (List (Option α)))) : GxI.Rows2 := rows.map fun o => o.map fun r => r.map fun y => y.map toV
theorem flat_rowsV {α : Type} (toV : α → V) : ∀ rows : List (Option (List (Option α))), GxI.flat2 (rowsV toV rows) = (rows.flatMap fun r => r.getD []).map fun y => y.map toV
  | [] => rfl
  | r :: t => by
    have ih := flat_rowsV toV t
    show ((r.map fun r => r.map fun y => y.map toV).getD [] ++ GxI.flat2 (rowsV toV t)) = _
    rw [ih, List.flatMap_cons, List.map_append]
    cases r <;> rfl
theorem gx_core2 {α : Type} {toD : α → PyData} {toV : α → V} (dflt : α) (hTV : ∀ K H v y, Da K H v (toD y) → v = toV y) {k : Nat} {P : Addr} {own : List (Str × Nat)} {wi wi1 : PWs} {g g1 : GD} {wt wt1 : PWB} {we : PW} {sl sl1 vs1 : List Nat} {Q : VK}
    {R : List α → PyData} {vR : List α → V} (hda : ∀ K H l, Da K H (vR l) (R l)) {rr : VK → Nat → (Nat → Bool) → (Nat → V) → (Nat → Hp → Prop) → Prop} (hPT : P ∈ T.tg) (hl : ∀ q ∈ T.tl, q.1 ≠ P) (mi : Mono wi) (hsl : ∀ i ∈ sl, i ∈ own.map (·.2)) (hsl1 : ∀ i ∈ sl1, i ∈ vs1) (hv : ∀ i ∈ vs1, i ∈ own.map (·.2))
    (mg : ∀ d ρ Q Q', (∀ r, Q r → Q' r) → g d ρ Q → g d ρ Q') (kg : ∀ d ρ Q, g d ρ Q → g d ρ fun ρ' => Q ρ' ∧ Off sl ρ ρ' ∧ Shd sl ρ') (mt : Mono wt) (mi1 : Mono wi1)
    (mg1 : ∀ d ρ Q Q', (∀ r, Q r → Q' r) → g1 d ρ Q → g1 d ρ Q') (kg1 : ∀ d ρ Q, g1 d ρ Q → g1 d ρ fun ρ' => Q ρ' ∧ Off sl1 ρ ρ' ∧ Shd sl1 ρ') (mt1 : Mono wt1) (me : Mono we)
    (hrr : ∀ (bs : List (Option α)) (Gd : Nat → Hp → Prop), (∀ i H', Gd i H' → Q (vR (bs.filterMap id)) H') → rr Q bs.length (fun i => (bs[i]?.join).isSome) (fun i => toV ((bs[i]?.join).getD dflt)) Gd)
    (h : lift T X.K W (wGen2 toD wi g wt wi1 g1 wt1 we (own.map (·.2)) vs1 R) σ H Q) : GxI.tGxC2 (liftI T X.K W wi) (liftG T X.K sl g) (liftB T X.K W0 wt) (liftI T X.K W0 wi1) (liftG T X.K sl1 g1) (liftB T X.K W0 wt1) (lift T X.K W0 we) (own.map (·.2)) vs1 P rr σ H Q := by
  generalize hvs : own.map (·.2) = vs at hsl hv h ⊢
  obtain ⟨G, ρ, r, no, q⟩ := h
  refine ⟨G, ρ, r, mi _ _ _ _ _ (fun ds hds J H1 r1 wk => ⟨r1.tab.g P hPT, fun H2 tb => ?_⟩) (fun _ z => z) q⟩
  obtain ⟨rows, h1, h2⟩ := hds
  have r2 := r1.tabbed tb (r1.tab.g P hPT) hl
  have e12 : ExtN (hide G.O H1) (hide G.O H2) := (r1.rebase.tabbed tb (r1.tab.g P hPT) hl).ext
  generalize hbs : (rows.flatMap fun r => r.getD []) = bs at h2
  refine ⟨rowsV toV rows, fun i => (bs[i]?.join).isSome, fun i => toV ((bs[i]?.join).getD dflt), fun H' => Rep T X.K ⟨hide G.O H1, G.O, G.fl⟩ ρ σ H', r1.rebase.tabbed tb (r1.tab.g P hPT) hl, ⟨fun i rv H3 hi r3 => ?_, fun H3 r3 => ?_⟩, fun f e hf => ?_, ?_⟩
  · have dm : ∀ a ∈ G.O, H3 a ≠ none := fun a ha z => by obtain ⟨o, e, _⟩ := r3.dom a ha; rw [z] at e; cases e
    obtain ⟨wk1, wk2⟩ := wk G.O H3 r3.ext dm
    unfold rowsV at hi
    rw [List.getElem?_map] at hi
    obtain ⟨orow, hor, rfl⟩ : ∃ orow, rows[i]? = some orow ∧ (orow.map fun r => r.map fun y => y.map toV) = rv := by
      cases z : rows[i]? with
      | none => rw [z] at hi; cases hi
      | some ob => rw [z] at hi; exact ⟨ob, rfl, Option.some.inj hi⟩
    have hll : i < ds.length := by rw [h1.length]; exact (List.getElem?_eq_some_iff.mp hor).1
    obtain ⟨jgo, yld⟩ := wk1 i ds[i] (List.getElem?_eq_getElem hll)
    refine ⟨jgo, fun x H4 hy => ?_⟩
    obtain ⟨al, hx⟩ := yld x H4 hy
    have r4 := r3.alloc al
    obtain ⟨ob', hob', hR⟩ := h1.get (List.getElem?_eq_getElem hll)
    rw [hor] at hob'
    cases hob'
    refine ⟨_, _, _, (r4.rebase.wipe vs), hx, mg _ _ _ _ (fun ρ2 h2 σ2 r5 w5 => ⟨?_, ?_⟩) (kg _ _ _ hR)⟩
    · rw [w5 vs hsl, wipe_wipe]
    · obtain ⟨h2, off, sh⟩ := h2
      have hw5 : L2.wipe σ2 vs = L2.wipe σ vs := by rw [w5 vs hsl, wipe_wipe]
      have offv : Off vs ρ ρ2 := fun j hj => by rw [off j (fun z => hj (hsl j z)), wipeE_get hj]
      have back : ∀ {H6 : Hp}, Rep T X.K ⟨hide G.O H4, G.O, G.fl⟩ ρ2 σ2 H6 → Rep T X.K ⟨hide G.O H1, G.O, G.fl⟩ ρ σ H6 := fun {H6} r6 => r4.unwipe r6 no offv hw5
      refine liftB_intro mt r5 (mt _ _ _ _ _ (fun kk hk H6 r6 e6 => ?_) (fun _ z => z.elim) h2)
      cases orow with
      | none =>
        have hk : kk = false := hk
        subst hk
        exact ⟨rfl, fun _ => back r6, fun z => Bool.noConfusion z⟩
      | some row =>
        obtain ⟨hk, hwi⟩ := hk
        subst hk
        refine ⟨rfl, fun z => Bool.noConfusion z, fun _ => ?_⟩
        refine ⟨_, ρ2, r6, mi1 _ _ _ _ _ (fun es hes J1 H7 r7 wk7 => ?_) (fun _ z => z.elim) hwi⟩
        have no2 : NoOwn vs1 ρ2 := fun i hi s hs => noOwn_wiped off sh i (hv i hi) s hs
        exact ⟨_, _, rfl, r7.rebase, in_ok hTV hsl1 mg1 kg1 mt1 me r7 no2 wk7 hes, fun j H8 r8 => back (r8.unbase r7.ext)⟩
  · have dm : ∀ a ∈ G.O, H3 a ≠ none := fun a ha z => by obtain ⟨o, e, _⟩ := r3.dom a ha; rw [z] at e; cases e
    exact (wk G.O H3 r3.ext dm).2 _ (by unfold rowsV; rw [List.length_map, h1.length]; exact Nat.le_refl _)
  · rw [flat_rowsV, hbs, List.getElem?_map] at hf
    cases z : bs[f]? with
    | none => rw [z] at hf; cases hf
    | some ob =>
      rw [z] at hf
      cases hf
      cases ob with
      | none => simp [z]
      | some y => simp [z]
  · rw [flat_rowsV, hbs, List.length_map]
    exact hrr bs _ fun i H' r' => h2 _ H' (r'.unbase r1.ext) (hda _ _ _)
theorem de_gen2 {α : Type} {toD : α → PyData} {toV : α → V} (dflt : α) (hTV : ∀ K H v y, Da K H v (toD y) → v = toV y) {R : List α → PyData} {vR : List α → V} (hda : ∀ K H l, Da K H (vR l) (R l)) {k : Nat} {cc P : Addr} {f : Str} {id' : String} {rr : VK → Nat → (Nat → Bool) → (Nat → V) → (Nat → Hp → Prop) → Prop} {elt tg iter tg1 iter1 : Expr} {ifs ifs1 : List Expr} {scope : Scope} {own : List (Str × Nat)} {wi wi1 : PWs} {g g1 : GD} {wt wt1 : PWB} {we : PW} {sl sl1 vs1 : List Nat}
    (hrr : ∀ (Q : VK) (bs : List (Option α)) (Gd : Nat → Hp → Prop), (∀ i H', Gd i H' → Q (vR (bs.filterMap id)) H') → rr Q bs.length (fun i => (bs[i]?.join).isSome) (fun i => toV ((bs[i]?.join).getD dflt)) Gd)
    (B : GxI.GxB X f id' rr) (hgl : Gl X f) (hm : X.mg f = none) (hr : Room (k + 1) X.A) (hc : X.calm = true) (hN : X.N.Nodup) (TB : GxR.TabB X.base X.mg cc P) (hPT : P ∈ T.tg) (hl : ∀ q ∈ T.tl, q.1 ≠ P) (hcode : X.env.code = .ref cc) (gs : GxI.GxS X.env scope) (ok : BlkOk X.N X.env.scope scope own) (hsl : ∀ i ∈ sl, i ∈ own.map (·.2)) (hsl1 : ∀ i ∈ sl1, i ∈ vs1) (hv : ∀ i ∈ vs1, i ∈ own.map (·.2))
    (hi : DI T X W tg iter wi)
    (hg : ∀ (A : Around) (s : Shared) (H : Hp) (C : Addr) (cd : Value) (cl : List (Str × Addr)) (fp : List Addr), DG T (GxI.gcx X A s H (genEnv scope cl C cd builtinsNs X.env) fp) sl tg g)
    (ht : ∀ (A : Around) (s : Shared) (H : Hp) (C : Addr) (cd : Value) (cl : List (Str × Addr)) (fp : List Addr), Room k A → DTs T (GxI.gcx X A s H (genEnv scope cl C cd builtinsNs X.env) fp) W0 ifs wt)
    (hi1 : ∀ (A : Around) (s : Shared) (H : Hp) (C : Addr) (cd : Value) (cl : List (Str × Addr)) (fp : List Addr), Room k A → DI T (GxI.gcx X A s H (genEnv scope cl C cd builtinsNs X.env) fp) W0 tg1 iter1 wi1)
    (hg1 : ∀ (A : Around) (s : Shared) (H : Hp) (C : Addr) (cd : Value) (cl : List (Str × Addr)) (fp : List Addr), DG T (GxI.gcx X A s H (genEnv scope cl C cd builtinsNs X.env) fp) sl1 tg1 g1)
    (ht1 : ∀ (A : Around) (s : Shared) (H : Hp) (C : Addr) (cd : Value) (cl : List (Str × Addr)) (fp : List Addr), Room k A → DTs T (GxI.gcx X A s H (genEnv scope cl C cd builtinsNs X.env) fp) W0 ifs1 wt1)
    (he : ∀ (A : Around) (s : Shared) (H : Hp) (C : Addr) (cd : Value) (cl : List (Str × Addr)) (fp : List Addr), Room k A → DE T (GxI.gcx X A s H (genEnv scope cl C cd builtinsNs X.env) fp) W0 elt we)
    (hs : ∀ v, genFold iter X.env v = pure v := by intro _; rfl) (hs1 : ∀ env x, foldedSetIterable iter1 env x = pure x := by intro _ _; rfl) (hn : f ≠ "__name__" := by decide) (hd : (f == ("__debug__" : Str)) = false := by decide)
    (hst : starEach [GxI.Ge2 elt tg iter tg1 iter1 ifs ifs1 scope gpos] X.env = (false, eval (GxI.Ge2 elt tg iter tg1 iter1 ifs ifs1 scope gpos) X.env) :: starEach [] X.env := by rfl) :
    DE T X W (.Call (.Name f p) [.GeneratorExp elt [⟨tg, iter, ifs, 0⟩, ⟨tg1, iter1, ifs1, 0⟩] scope gpos] [] pos) (wGen2 toD wi g wt wi1 g1 wt1 we (own.map (·.2)) vs1 R) := by
  have hrk : Room k X.A := hr.mono (Nat.le_succ _)
  have ht0 := ht X.A X.s_0 X.H_0 0 .none [] [] hrk
  have hi0 := hi1 X.A X.s_0 X.H_0 0 .none [] [] hrk
  have ht10 := ht1 X.A X.s_0 X.H_0 0 .none [] [] hrk
  have he0 := he X.A X.s_0 X.H_0 0 .none [] [] hrk
  have hg0 := hg X.A X.s_0 X.H_0 0 .none [] []
  have hg10 := hg1 X.A X.s_0 X.H_0 0 .none [] []
  exact ⟨pe_mono (GxI.pe_gx2 (wi := liftI T X.K W wi) (g := liftG T X.K sl g) (tt := liftB T X.K W0 wt) (wi1 := liftI T X.K W0 wi1) (g1 := liftG T X.K sl1 g1) (tt1 := liftB T X.K W0 wt1) (te := lift T X.K W0 we) B hgl hm hr hc hN TB hcode gs ok hi.pi (fun A s H C cd cl fp _ => (hg A s H C cd cl fp).pg) (fun A s H C cd cl fp hR => (ht A s H C cd cl fp hR).pt)
      (fun A s H C cd cl fp hR => (hi1 A s H C cd cl fp hR).pi) (fun A s H C cd cl fp _ => (hg1 A s H C cd cl fp).pg) (fun A s H C cd cl fp hR => (ht1 A s H C cd cl fp hR).pt) (fun A s H C cd cl fp hR => (he A s H C cd cl fp hR).pe) hv hs1 hs hn hd hst)
    fun σ H Q q => gx_core2 (k := k) (P := P) (own := own) dflt hTV hda hPT hl hi.mono hsl hsl1 hv hg0.mono hg0.keep ht0.mono hi0.mono hg10.mono hg10.keep ht10.mono he0.mono (hrr Q) q, mono_Gen2 hi.mono⟩
end
end PL
set_option Elab.async false
set_option linter.all false
set_option maxRecDepth 100000
set_option maxHeartbeats 2000000
/-! enumerate over a tuple, over a text -/
namespace EnB
open PySem PySem.Spec PyProof.Rows L2
theorem meets_new1 {v : Value} {o : Obj} {H : Heap → Prop} (B : Begins v o H) :
    Meets (Builtin.«enumerate.__new__» ⟨[.type "enumerate", v], []⟩) (fun _ R s => H s.heap ∧
      R (.ok (.ret (.ref (s.heap.push o).objs.size))) { s with heap := (s.heap.push o).push { cls := .type "enumerate", data := .fields #[.none, .bool false, .ref s.heap.objs.size, rawInt 0, .none, .none] } }) :=
  .of_wp fun prog w A R s h => by
    obtain ⟨hp, g, d, tk, os⟩ := s; obtain ⟨h1, h⟩ := h
    have hsub := sub_enumerate
    have q1 : ∀ {A' : Around} {E : Value → Shared → Prop} {Q : Value → Shared → Prop}, Q (.ref hp.objs.size) ⟨hp.push o, g, d, tk, os⟩ → wpAny (model prog w) A' (pyIter v) Q E ⟨hp, g, d, tk, os⟩ :=
      fun q => B.iter prog w _ _ ⟨hp, g, d, tk, os⟩ _ h1 q
    wp_walk using q1
    refine wpAny_stack_any fun st => wpAny_pure ?_
    split
    · rename_i c _ _ _ _ _
      cases (c == Value.type "enumerate")
      · wp_walk using q1
        exact ⟨_, rfl, h⟩
      · wp_walk using q1
        exact ⟨_, rfl, h⟩
    · wp_walk using q1
      exact ⟨_, rfl, h⟩
section
variable {prog : Program} {w : World} {A : Around} {E : Value → Shared → Prop} {s : Shared}
theorem enum_new1 {v : Value} {o : Obj} {H : Heap → Prop} {Q : Value → Shared → Prop} (B : Begins v o H) (h1 : H s.heap)
    (h : ∀ h', IsEnum h' (s.heap.objs.size + 1) s.heap.objs.size 0 .none → h'.get? s.heap.objs.size = some o → h'.objs.size = s.heap.objs.size + 2 →
      (∀ b o, s.heap.get? b = some o → h'.get? b = some o) → Q (.ref (s.heap.objs.size + 1)) { s with heap := h' }) :
    wpAny (model prog w) A (call (.type "enumerate") [v]) Q E s := by
  refine callType_new F.called_enumerate (by decide) (F.typeCall_enumerate_1 _) (F.newCall_enumerate_1 _) (fun obj => F.args_object_init_2 obj _) F.entry_enumerate_new
    (meets_new1 B) ⟨h1, ?_⟩
  have hz : (s.heap.push o).objs.size = s.heap.objs.size + 1 := Heap.size_push ..
  show _ ∧ _
  rw [hz]
  have he : IsEnum ((s.heap.push o).push { cls := .type "enumerate", data := .fields #[.none, .bool false, .ref s.heap.objs.size, rawInt 0, .none, .none] }) (s.heap.objs.size + 1) s.heap.objs.size 0 .none := by
    have := Heap.get?_push_size (s.heap.push o) (o := { cls := .type "enumerate", data := .fields #[.none, .bool false, .ref s.heap.objs.size, rawInt 0, .none, .none] }) rfl
    rw [hz] at this; exact this
  refine ⟨⟨_, he, rfl⟩, h _ he (Heap.get?_push_of_some _ (Heap.get?_push_size _ B.free)) (by rw [Heap.size_push, hz]) fun b o x => Heap.get?_push_of_some _ (Heap.get?_push_of_some _ x)⟩
end
theorem enum_end_gen {prog : Program} {w : World} {A : Around} {E : Value → Shared → Prop} {s : Shared} {e it : Addr} {i : Int} {old : Value} {Q : Option Value → Shared → Prop} (he : IsEnum s.heap e it i old)
    (hd : ∀ (Q' : Value → Shared → Prop) (E' : Value → Shared → Prop), (∀ h' e, Heap.ExtBut it s.heap h' → (∃ o, h'.get? e = some o ∧ o.cls = .type "StopIteration") → E' (.ref e) { s with heap := h' }) → wpAny (model prog w) A.in1 (Builtin.SmallTypes.nextOf (.ref it)) Q' E' s)
    (hQ : ∀ h', Heap.ExtBut it s.heap h' → Q none { s with heap := h' }) : wpAny (model prog w) A (pyNext (.ref e)) Q E s := by
  have hT : s.TypeIs (.ref e) "enumerate" := ⟨_, he, rfl⟩
  unfold pyNext
  refine wpAny_bind (wpAny_attempt (wpAny_callSpecial?_slot (name := Str.ofString "__next__") hT F.slot_enumerate_next
    (wpAny_call_entry F.slot_enumerate_next hT F.entry_enumerate_next ?_ (F.args_enumerate_next_1 _))))
  show wpAny _ _ (field (.ref e) 2 >>= _) _ _ _
  refine wpAny_bind (wpAny_field he rfl (x := .ref it) rfl ?_)
  refine wpAny_bind (hd _ _ fun h' x he' hx' => ?_)
  obtain ⟨o, ho, hc⟩ := hx'
  refine wpAny_bind (wpAny_isInstance (T := "StopIteration") (b := true) ⟨o, ho, hc⟩ isSubtype_stop ?_)
  exact wpAny_pure (hQ _ he')
/-- the tuple at a, each item in a new pair -/
def ItEt (K : PySem.W.Frag) (a : Addr) : It :=
  ⟨fun i H => ∃ (xs : List V) (x : V), SqT K H a xs ∧ xs[i]? = some x, fun i H v H' => ∃ T x, v = .ref T ∧ H T = none ∧ H' = upd H T (.tup [.int (i : Nat), x]) ∧ ∀ xs, SqT K H a xs → xs[i]? = some x, fun i H => ∃ xs : List V, SqT K H a xs ∧ xs.length ≤ i⟩
/-- the text x, each sign in a new pair -/
def ItEs (x : Str) : It :=
  ⟨fun i _ => i < x.cps.size, fun i H v H' => ∃ T c, v = .ref T ∧ H T = none ∧ H' = upd H T (.tup [.int (i : Nat), .str ⟨#[c]⟩]) ∧ x.cps[i]? = some c, fun i _ => x.cps.size ≤ i⟩
theorem turn_enumT {P : Program} {w : World} {K : PySem.W.Frag} {elts : List Expr} {kk : Nat} {tpos : Pos} (a e it : Addr) :
    Turn P w K (.Tuple elts kk tpos) (ItEt K a) [e, it] e (fun i h => (∃ old, IsEnum h e it ((i : Nat) : Int) old) ∧ h.IsTupleIter it a i ∧ e ≠ it) where
  mem := by simp
  obj := fun i h st b hb => by
    obtain ⟨⟨old, he⟩, ⟨o, ho, hc, hd⟩, _⟩ := st
    have e' : b = e ∨ b = it := by simpa using hb
    rcases e' with z | z
    · rw [z]; exact ⟨_, he, fun v q => nomatch q⟩
    · rw [z]; exact ⟨o, ho, fun v q => by rw [hd] at q; cases q⟩
  keep := fun i h h' st k => let ⟨⟨old, he⟩, hi, hne⟩ := st; ⟨⟨old, k e (by simp) _ he⟩, hi.at fun o q => k it (by simp) o q, hne⟩
  item := by
    intro X hP hw hK hc i pins s σ H E I hf st hg
    subst hP hw hK
    obtain ⟨⟨old, he⟩, hit, hne⟩ := st
    obtain ⟨xs, x, hq, hx⟩ := hg
    obtain ⟨its, rv, p, hz⟩ := I.tuple hq
    obtain ⟨u, hu, ru⟩ := rv.get hx
    have hel : e < s.heap.objs.size := Heap.lt_size he
    have hil : it < s.heap.objs.size := by obtain ⟨_, q, _⟩ := hit; exact Heap.lt_size q
    have hT : s.heap.IsTuple a its.toArray := p
    have hae : a ≠ e := fun z => by
      obtain ⟨o, ho, hco, _⟩ := hT
      rw [z] at ho
      rw [he] at ho
      cases ho
      exact absurd (show Value.type "enumerate" = .type "tuple" from hco) (by decide)
    have hai : a ≠ it := fun z => by
      obtain ⟨o, ho, hco, _⟩ := hT
      obtain ⟨o', ho', hco', _⟩ := hit
      rw [z, ho'] at ho
      cases ho
      rw [hco'] at hco
      exact absurd hco (by decide)
    refine wpAny_pyNext_enum_itemC (D := Draws.tuple (A := X.A.in1) (I.ok.hd hc) it a hai its.toArray) he ⟨hit, hT⟩ (by have := rv.length; have := (List.getElem?_eq_some_iff.mp hx).1; simp; omega) hne (by simp [hne, Ne.symm hae]) fun x' h' tk hP ho hst' hTn hsz hk => ?_
    have ex : x' = u := by
      have : its.toArray[i]? = some x' := hP
      have h2 : its.toArray[i]? = some u := by simpa using hu
      rw [h2] at this
      exact (Option.some.inj this).symm
    subst ex
    refine ⟨_, rfl, wpAny_letOwnedTupleGo_enum (s := { s with heap := h', toks := tk + 1 }) ho fun h'' he' sb => ?_⟩
    have hT2 : h''.get? s.heap.objs.size = some { cls := .type "tuple", data := .seq #[.int i tk, x'] } := (sb.2 _ (Nat.ne_of_gt hel)).trans hTn
    have new : ObjOk X.prog X.w (upd H s.heap.objs.size (.tup [.int (i : Nat), x])) h'' s.heap.objs.size (.tup [.int (i : Nat), x]) :=
      ⟨by show 2 ≤ sizeLine; decide, [.int i tk, x'], .cons ⟨_, rfl⟩ (.cons ru .nil), ⟨_, hT2, rfl, _, rfl⟩⟩
    have I1 : Inv X pins σ (upd H s.heap.objs.size (.tup [.int (i : Nat), x])) { s with heap := h'', toks := tk + 1 } :=
      I.turnedNew (ch := [e, it]) (fun b ob hb q => (sb.2 b (fun z => hb (by simp [z]))).trans (hk b ob (fun z => hb (by simp [z])) (fun z => hb (by simp [z])) q)) hf (Nat.le_refl _) new
    refine ⟨.ref s.heap.objs.size, _, I1, rfl, ⟨_, x, rfl, I.hok.fresh (Nat.le_refl _), rfl, fun ys hy => by rw [I.tuple_inj hy hq]; exact hx⟩, ⟨⟨x', ?_⟩, hst'.1.at fun o q => (sb.2 it (Ne.symm hne)).trans q, hne⟩, fun b hb => ?_⟩
    · have e1 : ((i + 1 : Nat) : Int) = (i : Int) + 1 := by omega
      rw [e1]; exact he'
    · have hb' : b < s.heap.objs.size := by
        have e' : b = e ∨ b = it := by simpa using hb
        rcases e' with z | z
        · rw [z]; exact hel
        · rw [z]; exact hil
      rw [upd_ne (Nat.ne_of_lt hb')]
      exact (hf b hb).1
  done := by
    intro X hP hw hK hc i pins s σ H E I hf st hg
    subst hP hw hK
    obtain ⟨⟨old, he⟩, hit, hne⟩ := st
    obtain ⟨xs, hq, hx⟩ := hg
    obtain ⟨its, rv, p, hz⟩ := I.tuple hq
    have hT : s.heap.IsTuple a its.toArray := p
    have hai : a ≠ it := fun z => by
      obtain ⟨o, ho, hco, _⟩ := hT
      obtain ⟨o', ho', hco', _⟩ := hit
      rw [z, ho'] at ho
      cases ho
      rw [hco'] at hco
      exact absurd hco (by decide)
    obtain ⟨f0, f1, f2, f3, f4, f5⟩ := hf it (by simp)
    have hl := rv.length
    exact enum_end_gen he (fun Q E hE => wpAny_nextOf_tuple_end (A := X.A.in1) (I.ok.hd hc) hit hT (by simp; omega) hE) fun h' eb => ⟨rfl, I.turned (t' := s.toks) (fun b o hb q => eb b o hb q) f0 f1 f3 f4 f5⟩
  self := fun A i s Q E st h => let ⟨⟨_, he⟩, _⟩ := st; wpAny_pyIter_enum he h
theorem turn_enumS {P : Program} {w : World} {K : PySem.W.Frag} {elts : List Expr} {kk : Nat} {tpos : Pos} (x : Str) (t : Tok) (e it : Addr) :
    Turn P w K (.Tuple elts kk tpos) (ItEs x) [e, it] e (fun i h => (∃ old, IsEnum h e it ((i : Nat) : Int) old) ∧ h.IsStrIter it (strIterType x) x t i ∧ e ≠ it) where
  mem := by simp
  obj := fun i h st b hb => by
    obtain ⟨⟨old, he⟩, ⟨o, ho, hc, hd⟩, _⟩ := st
    have e' : b = e ∨ b = it := by simpa using hb
    rcases e' with z | z
    · rw [z]; exact ⟨_, he, fun v q => nomatch q⟩
    · rw [z]; exact ⟨o, ho, fun v q => by rw [hd] at q; cases q⟩
  keep := fun i h h' st k => let ⟨⟨old, he⟩, ⟨o, ho, r⟩, hne⟩ := st; ⟨⟨old, k e (by simp) _ he⟩, ⟨o, k it (by simp) o ho, r⟩, hne⟩
  item := by
    intro X hP hw hK hc i pins s σ H E I hf st hg
    subst hP hw hK
    obtain ⟨⟨old, he⟩, hit, hne⟩ := st
    have hel : e < s.heap.objs.size := Heap.lt_size he
    have hil : it < s.heap.objs.size := by obtain ⟨_, q, _⟩ := hit; exact Heap.lt_size q
    refine wpAny_pyNext_enum_itemC (D := Draws.text (A := X.A.in1) (I.ok.hd hc) it x t) he hit hg hne (by simp [hne]) fun x' h' tk hP ho hst' hTn hsz hk => ?_
    obtain ⟨c, uu, hcx, rfl⟩ := hP
    refine ⟨_, rfl, wpAny_letOwnedTupleGo_enum (s := { s with heap := h', toks := tk + 1 }) ho fun h'' he' sb => ?_⟩
    have hT2 : h''.get? s.heap.objs.size = some { cls := .type "tuple", data := .seq #[.int i tk, .str ⟨#[c]⟩ uu] } := (sb.2 _ (Nat.ne_of_gt hel)).trans hTn
    have new : ObjOk X.prog X.w (upd H s.heap.objs.size (.tup [.int (i : Nat), .str ⟨#[c]⟩])) h'' s.heap.objs.size (.tup [.int (i : Nat), .str ⟨#[c]⟩]) :=
      ⟨by show 2 ≤ sizeLine; decide, [.int i tk, .str ⟨#[c]⟩ uu], .cons ⟨_, rfl⟩ (.cons ⟨_, rfl⟩ .nil), ⟨_, hT2, rfl, _, rfl⟩⟩
    have I1 : Inv X pins σ (upd H s.heap.objs.size (.tup [.int (i : Nat), .str ⟨#[c]⟩])) { s with heap := h'', toks := tk + 1 } :=
      I.turnedNew (ch := [e, it]) (fun b ob hb q => (sb.2 b (fun z => hb (by simp [z]))).trans (hk b ob (fun z => hb (by simp [z])) (fun z => hb (by simp [z])) q)) hf (Nat.le_refl _) new
    refine ⟨.ref s.heap.objs.size, _, I1, rfl, ⟨_, c, rfl, I.hok.fresh (Nat.le_refl _), rfl, hcx⟩, ⟨⟨.str ⟨#[c]⟩ uu, ?_⟩, ?_, hne⟩, fun b hb => ?_⟩
    · have e1 : ((i + 1 : Nat) : Int) = (i : Int) + 1 := by omega
      rw [e1]; exact he'
    · obtain ⟨o, ho, r⟩ := hst'
      exact ⟨o, (sb.2 it (Ne.symm hne)).trans ho, r⟩
    · have hb' : b < s.heap.objs.size := by
        have e' : b = e ∨ b = it := by simpa using hb
        rcases e' with z | z
        · rw [z]; exact hel
        · rw [z]; exact hil
      rw [upd_ne (Nat.ne_of_lt hb')]
      exact (hf b hb).1
  done := by
    intro X hP hw hK hc i pins s σ H E I hf st hg
    subst hP hw hK
    obtain ⟨⟨old, he⟩, hit, hne⟩ := st
    obtain ⟨f0, f1, f2, f3, f4, f5⟩ := hf it (by simp)
    have hx : x.cps[i]? = none := Array.getElem?_eq_none hg
    refine enum_end_gen he (fun Q E hE => ?_) fun h' eb => ⟨rfl, I.turned (t' := s.toks) (fun b o hb q => eb b o hb q) f0 f1 f3 f4 f5⟩
    cases ha : x.cps.all (· < 128)
    · simp only [strIterType, ha, Bool.false_eq_true, if_false] at hit
      exact wpAny_nextOf_wide_end (A := X.A.in1) (I.ok.hd hc) hit hx hE
    · simp only [strIterType, ha, if_true] at hit
      exact wpAny_nextOf_ascii_end (A := X.A.in1) (I.ok.hd hc) hit hx hE
  self := fun A i s Q E st h => let ⟨⟨_, he⟩, _⟩ := st; wpAny_pyIter_enum he h
section
variable {X : Cx} {e : Expr} {ta : TA} {p pos tpos : Pos} {elts : List Expr} {kk : Nat}
def iEnT (K : PySem.W.Frag) (ta : TA) : TI := fun σ H R => ta σ H fun vs H1 => ∃ a xs, vs = [.ref a] ∧ SqT K H1 a xs ∧ R (ItEt K a) H1
def iEnS (ta : TA) : TI := fun σ H R => ta σ H fun vs H1 => ∃ x, vs = [.str x] ∧ R (ItEs x) H1
theorem pi_enumT (hg : Gl X "enumerate") (hm : X.mg "enumerate" = none) (ha : PA X [e] ta) (hs : starEach [e] X.env = [(false, eval e X.env)] := by rfl) :
    PI X (.Tuple elts kk tpos) (.Call (.Name "enumerate" p) [e] [] pos) (iEnT X.K ta) := by
  refine ⟨fun pins s σ H R I h => ?_⟩
  refine Call_ (ld_blt I hg hm boot_enumerate (PyProof.Rows.callWith_type1 (thn (ha.run pos pins s σ H _ I h) fun us s1 ⟨vs, H1, I1, r1, q1⟩ => ?_) hs rfl))
  obtain ⟨a, xs, ex, hq, q⟩ := q1
  subst ex
  cases r1 with
  | cons r rr =>
    cases rr
    cases r
    obtain ⟨its, rv, p', hz⟩ := I1.tuple hq
    refine enum_new1 (begins_tuple a its.toArray) p' fun h' he hit hsz hk => wpAny_pyIter_enum he ?_
    have I2 : Inv X pins σ H1 { s1 with heap := h' } := I1.kept (t' := s1.toks) hk
    refine ⟨s1.heap.objs.size + 1, [s1.heap.objs.size + 1, s1.heap.objs.size], _, _, H1, rfl, I2, turn_enumT a (s1.heap.objs.size + 1) s1.heap.objs.size, ⟨⟨.none, he⟩, ⟨_, hit, rfl, rfl⟩, Nat.succ_ne_self _⟩, fun b hb => ?_, q⟩
    have e' : b = s1.heap.objs.size + 1 ∨ b = s1.heap.objs.size := by simpa using hb
    have hle : s1.heap.objs.size ≤ b := by
      rcases e' with z | z
      · rw [z]; exact Nat.le_add_right _ _
      · rw [z]; exact Nat.le_refl _
    exact I1.fpOk hle (I1.hok.fresh hle)
theorem pi_enumS (hg : Gl X "enumerate") (hm : X.mg "enumerate" = none) (ha : PA X [e] ta) (hs : starEach [e] X.env = [(false, eval e X.env)] := by rfl) :
    PI X (.Tuple elts kk tpos) (.Call (.Name "enumerate" p) [e] [] pos) (iEnS ta) := by
  refine ⟨fun pins s σ H R I h => ?_⟩
  refine Call_ (ld_blt I hg hm boot_enumerate (PyProof.Rows.callWith_type1 (thn (ha.run pos pins s σ H _ I h) fun us s1 ⟨vs, H1, I1, r1, q1⟩ => ?_) hs rfl))
  obtain ⟨x, ex, q⟩ := q1
  subst ex
  cases r1 with
  | cons r rr =>
    cases rr
    obtain ⟨t, rfl⟩ := r
    refine enum_new1 (begins_text x t) trivial fun h' he hit hsz hk => wpAny_pyIter_enum he ?_
    have I2 : Inv X pins σ H1 { s1 with heap := h' } := I1.kept (t' := s1.toks) hk
    refine ⟨s1.heap.objs.size + 1, [s1.heap.objs.size + 1, s1.heap.objs.size], _, _, H1, rfl, I2, turn_enumS x t (s1.heap.objs.size + 1) s1.heap.objs.size, ⟨⟨.none, he⟩, ⟨_, hit, rfl, rfl⟩, Nat.succ_ne_self _⟩, fun b hb => ?_, q⟩
    have e' : b = s1.heap.objs.size + 1 ∨ b = s1.heap.objs.size := by simpa using hb
    have hle : s1.heap.objs.size ≤ b := by
      rcases e' with z | z
      · rw [z]; exact Nat.le_add_right _ _
      · rw [z]; exact Nat.le_refl _
    exact I1.fpOk hle (I1.hok.fresh hle)
end
end EnB
namespace PL
open PySem PySem.Spec PyProof.Rows L2 EnB
open LamX (ExtN Tabs TabS)
section
variable {T : Tb} {X : Cx} {W : WX} {pos p apos cpos : Pos} {e a b c : Expr} {K : PySem.W.Frag} {G : Gh} {ρ ρ2 : En} {σ σ2 : L2.St} {H H' : Hp}
theorem wk_enumT {a : Addr} {vs : List V} {ds : List PyData} {B : Hp} (h : SqT K B a vs) (hx : DaAll K B vs ds) : WkJ K B (ItEt K a) (enumD ds) := fun O H e dm => by
  have hH : SqT K H a vs := sqT_whole (sqT_ext e h)
  refine ⟨fun i d hd => ?_, fun i hi => ⟨vs, hH, ?_⟩⟩
  · obtain ⟨x, h1, rfl⟩ := enumD_get hd
    obtain ⟨v, h2, h3⟩ := hx.getD h1
    refine ⟨⟨vs, v, hH, h2⟩, fun y H3 hy => ?_⟩
    obtain ⟨t, z, rfl, nt, rfl, hz⟩ := hy
    have ez : z = v := Option.some.inj ((hz vs hH).symm.trans h2)
    subst ez
    refine ⟨fun b o hb => by rw [upd_ne (ne_of_none hb nt)]; exact hb, ?_⟩
    have nO : t ∉ O := fun z => dm t z nt
    have eT : ExtN B (hide O (upd H t (.tup [.int (i : Nat), z]))) := e.trans (ext_hide fun b o _ hb _ => by rw [upd_ne (ne_of_none hb nt)]; exact hb)
    exact .tup (by rw [hide_out nO, upd_same]) (.cons (.int _) (.cons (h3.ext eT) .nil))
  · rw [enumD_length] at hi
    rw [hx.length]
    exact hi
theorem wk_enumS {x : Str} {B : Hp} : WkJ K B (ItEs x) (enumD (signsD x)) := fun O H e dm => by
  refine ⟨fun i d hd => ?_, fun i hi => ?_⟩
  · obtain ⟨d', h1, rfl⟩ := enumD_get hd
    rw [signsD, List.getElem?_map] at h1
    cases hc : x.cps.toList[i]? with
    | none => rw [hc] at h1; cases h1
    | some ch =>
      rw [hc] at h1
      cases h1
      have hi : i < x.cps.size := by
        have := (List.getElem?_eq_some_iff.mp hc).1
        rwa [Array.length_toList] at this
      refine ⟨hi, fun y H3 hy => ?_⟩
      obtain ⟨t, c', rfl, nt, rfl, hz⟩ := hy
      have : c' = ch := by
        rw [Array.getElem?_toList] at hc
        rw [hc] at hz
        exact (Option.some.inj hz).symm
      subst this
      refine ⟨fun b o hb => by rw [upd_ne (ne_of_none hb nt)]; exact hb, ?_⟩
      have nO : t ∉ O := fun z => dm t z nt
      exact .tup (by rw [hide_out nO, upd_same]) (.cons (.int _) (.cons (.str _) .nil))
  · rw [enumD_length, signsD, List.length_map, Array.length_toList] at hi
    exact hi
def wItET (w : PW) : PWs := fun ρ Q E => w ρ (fun d => match d with | .tuple ds => Q (enumD ds) | _ => False) E
def wItES (w : PW) : PWs := fun ρ Q E => w ρ (fun d => match d with | .str x => Q (enumD (signsD x)) | _ => False) E
theorem di_enumT {elts : List Expr} {kk : Nat} {tpos : Pos} {w : PW} (hg : Gl X "enumerate") (hm : X.mg "enumerate" = none) (h : DE T X W e w) (hs : starEach [e] X.env = [(false, eval e X.env)] := by rfl)
    (hs2 : starEach [e] X.env = (false, eval e X.env) :: starEach [] X.env := by rfl) : DI T X W (.Tuple elts kk tpos) (.Call (.Name "enumerate" p) [e] [] pos) (wItET w) := ⟨pi_mono (pi_enumT hg hm (pa_cons h.pe pa_nil hs2) hs) fun σ H R q => by
    obtain ⟨G, ρ, r, q⟩ := q
    refine ⟨G, ρ, r, h.mono _ _ _ _ _ (fun d hd v H' r' a => ?_) (fun _ z => z) q⟩
    cases d with
    | tuple ds =>
      obtain ⟨t, xs, rfl, ht', hx⟩ := a.seq
      exact ⟨t, xs, rfl, sqT_whole ht', hd _ H' r' (wk_enumT ht' hx)⟩
    | _ => exact hd.elim, fun ρ Q Q' E E' hq he q => h.mono _ _ _ _ _ (fun d hd => by cases d <;> first | exact hq _ hd | exact hd) he q⟩
theorem di_enumS {elts : List Expr} {kk : Nat} {tpos : Pos} {w : PW} (hg : Gl X "enumerate") (hm : X.mg "enumerate" = none) (h : DE T X W e w) (hs : starEach [e] X.env = [(false, eval e X.env)] := by rfl)
    (hs2 : starEach [e] X.env = (false, eval e X.env) :: starEach [] X.env := by rfl) : DI T X W (.Tuple elts kk tpos) (.Call (.Name "enumerate" p) [e] [] pos) (wItES w) := ⟨pi_mono (pi_enumS hg hm (pa_cons h.pe pa_nil hs2) hs) fun σ H R q => by
    obtain ⟨G, ρ, r, q⟩ := q
    refine ⟨G, ρ, r, h.mono _ _ _ _ _ (fun d hd v H' r' a => ?_) (fun _ z => z) q⟩
    cases a with
    | str x => exact ⟨_, rfl, hd _ H' r' wk_enumS⟩
    | _ => exact hd.elim, fun ρ Q Q' E E' hq he q => h.mono _ _ _ _ _ (fun d hd => by cases d <;> first | exact hq _ hd | exact hd) he q⟩
end
end PL
set_option Elab.async false
set_option linter.all false
set_option maxRecDepth 100000
set_option maxHeartbeats 1000000
/-! readings walked: what every law's plain part uses -/
namespace U
open PySem PySem.Spec PyProof.Rows L2 PL
open PySem.W (Datum DatumOrd Tup)
theorem le_size {n : Nat} (h : n ≤ 100000) : n ≤ sizeLine := by rw [sizeLine_eq]; omega
theorem lt_size {n : Nat} (h : n ≤ 100000) : n < sizeLine := by rw [sizeLine_eq]; omega
theorem pl_int (i : Int) : Pl (.int i) := ⟨rfl, Nat.zero_le _⟩
theorem pl_str (x : Str) : Pl (.str x) := ⟨rfl, Nat.zero_le _⟩
theorem pl_bool (x : Bool) : Pl (.bool x) := ⟨rfl, Nat.zero_le _⟩
theorem pl_none : Pl .none := ⟨rfl, Nat.zero_le _⟩
theorem PlD {α : Type} [DecidableEq α] [Datum α] (x : α) (h : Datum.depth α ≤ 30 := by decide) : Pl (Datum.toD x) := ⟨Datum.plain x, Nat.le_trans (Datum.depth_le x) h⟩
theorem eqv_int (i j : Int) : PyData.eqv (.int i) (.int j) = decide (i = j) := Datum.eqv i j
theorem eqv_str (i j : Str) : PyData.eqv (.str i) (.str j) = decide (i = j) := Datum.eqv i j
theorem eqv_bool (i j : Bool) : PyData.eqv (.bool i) (.bool j) = decide (i = j) := Datum.eqv i j
/-! ways -/
theorem br {b : Bool} {A B : Prop} (h1 : b = true → A) (h2 : b = false → B) : if b = true then A else B := by
  cases b
  · rw [if_neg (by decide)]; exact h2 rfl
  · rw [if_pos rfl]; exact h1 rfl
theorem brD {p : Prop} [Decidable p] {A B : Prop} (h1 : p → A) (h2 : ¬ p → B) : if decide p = true then A else B := br (fun e => h1 (of_decide_eq_true e)) (fun e => h2 (of_decide_eq_false e))
theorem yes {b : Bool} {A B : Prop} (e : b = true) (h : A) : if b = true then A else B := by rw [if_pos e]; exact h
theorem no {b : Bool} {A B : Prop} (e : b = false) (h : B) : if b = true then A else B := by rw [e, if_neg (by decide)]; exact h
theorem yesD {p : Prop} [Decidable p] {A B : Prop} (e : p) (h : A) : if decide p = true then A else B := yes (decide_eq_true e) h
theorem noD {p : Prop} [Decidable p] {A B : Prop} (e : ¬ p) (h : B) : if decide p = true then A else B := no (decide_eq_false e) h
theorem brEq {α : Type} [DecidableEq α] [Datum α] (x y : α) {A B : Prop} (h1 : x = y → A) (h2 : x ≠ y → B) : if (if false = true then !PyData.eqv (Datum.toD x) (Datum.toD y) else PyData.eqv (Datum.toD x) (Datum.toD y)) = true then A else B :=
  br (fun e => h1 (of_decide_eq_true ((Datum.eqv x y).symm.trans e))) (fun e => h2 (of_decide_eq_false ((Datum.eqv x y).symm.trans e)))
theorem brNe {α : Type} [DecidableEq α] [Datum α] (x y : α) {A B : Prop} (h1 : x ≠ y → A) (h2 : x = y → B) : if (if true = true then !PyData.eqv (Datum.toD x) (Datum.toD y) else PyData.eqv (Datum.toD x) (Datum.toD y)) = true then A else B := by
  refine br (fun e => h1 fun h => ?_) (fun e => h2 ?_)
  · rw [if_pos rfl, Datum.eqv, decide_eq_true h] at e; cases e
  · rw [if_pos rfl, Datum.eqv, Bool.not_eq_false', decide_eq_true_eq] at e; exact e
/-! loops -/
theorem goFor_by {g : GD} {b : SW} {D : PEn} {ds : List PyData} (Inv : Nat → En → Prop)
    (hs : ∀ i d ρ (N : En → Prop), (∀ ρ', Inv (i + 1) ρ' → N ρ') → ds[i]? = some d → Inv i ρ → g d ρ fun ρ2 => b ρ2 { D with nx := N, ct := N, bk := D.nx }) (hd : ∀ ρ, Inv ds.length ρ → D.nx ρ) : ∀ ρ, Inv 0 ρ → goFor g b D ds ρ := by
  have key : ∀ (k i : Nat) (ρ : En), i + k = ds.length → Inv i ρ → goFor g b D (ds.drop i) ρ := by
    intro k
    induction k with
    | zero =>
      intro i ρ e h
      rw [List.drop_eq_nil_of_le (by omega)]
      have : i = ds.length := by omega
      subst this
      exact hd ρ h
    | succ k ih =>
      intro i ρ e h
      rw [List.drop_eq_getElem_cons (by omega : i < ds.length)]
      exact hs i _ ρ _ (fun ρ' h' => ih (i + 1) ρ' (by omega) h') (List.getElem?_eq_getElem (by omega)) h
  intro ρ h
  have := key ds.length 0 ρ (by omega) h
  rwa [List.drop_zero] at this
/-- over items that are known -/
theorem for_list {α : Type} {enc : α → PyData} {g : GD} {b : SW} {D : PEn} (xs : List α) (Inv : Nat → En → Prop)
    (hs : ∀ i x ρ (N : En → Prop), (∀ ρ', Inv (i + 1) ρ' → N ρ') → xs[i]? = some x → i < xs.length → Inv i ρ → g (enc x) ρ fun ρ2 => b ρ2 { D with nx := N, ct := N, bk := D.nx }) (hd : ∀ ρ, Inv xs.length ρ → D.nx ρ) (ρ : En) (h : Inv 0 ρ) : goFor g b D (xs.map enc) ρ := by
  refine goFor_by Inv (fun i d ρ N hN hd hI => ?_) (fun ρ hI => hd ρ (by rwa [List.length_map] at hI)) ρ h
  rw [List.getElem?_map] at hd
  cases e : xs[i]? with
  | none => rw [e] at hd; cases hd
  | some x =>
    rw [e] at hd
    cases hd
    exact hs i x ρ N hN e (List.getElem?_eq_some_iff.mp e).1 hI
theorem for_range {g : GD} {b : SW} {D : PEn} (lo : Int) (n : Nat) (Inv : Nat → En → Prop)
    (hs : ∀ i ρ (N : En → Prop), (∀ ρ', Inv (i + 1) ρ' → N ρ') → i < n → Inv i ρ → g (.int (lo + (i : Nat))) ρ fun ρ2 => b ρ2 { D with nx := N, ct := N, bk := D.nx }) (hd : ∀ ρ, Inv n ρ → D.nx ρ) (ρ : En) (h : Inv 0 ρ) : goFor g b D (rangeD lo n) ρ := by
  unfold rangeD
  refine for_list (List.range n) Inv (fun i x ρ N hN hx hi hI => ?_) (fun ρ hI => hd ρ (by rwa [List.length_range] at hI)) ρ h
  rw [List.length_range] at hi
  rw [List.getElem?_range hi] at hx
  cases hx
  exact hs i ρ N hN hi hI
theorem enumD_map {α : Type} (enc : α → PyData) (xs : List α) : enumD (xs.map enc) = xs.zipIdx.map fun p => .tuple [.int (p.2 : Nat), enc p.1] := by
  unfold enumD
  rw [List.zipIdx_map, List.map_map]
  rfl
theorem for_enum {α : Type} {enc : α → PyData} {g : GD} {b : SW} {D : PEn} (xs : List α) (Inv : Nat → En → Prop)
    (hs : ∀ i x ρ (N : En → Prop), (∀ ρ', Inv (i + 1) ρ' → N ρ') → xs[i]? = some x → i < xs.length → Inv i ρ → g (.tuple [.int (i : Nat), enc x]) ρ fun ρ2 => b ρ2 { D with nx := N, ct := N, bk := D.nx }) (hd : ∀ ρ, Inv xs.length ρ → D.nx ρ) (ρ : En) (h : Inv 0 ρ) : goFor g b D (enumD (xs.map enc)) ρ := by
  rw [enumD_map]
  refine for_list xs.zipIdx Inv (fun i p ρ N hN hx hi hI => ?_) (fun ρ hI => hd ρ (by rwa [List.length_zipIdx] at hI)) ρ h
  rw [List.getElem?_zipIdx] at hx
  cases e : xs[i]? with
  | none => rw [e] at hx; cases hx
  | some x =>
    rw [e] at hx
    simp only [Option.map_some, Option.some.injEq, Nat.zero_add] at hx
    subst hx
    exact hs i x ρ N hN e (List.getElem?_eq_some_iff.mp e).1 hI
/-! comprehensions -/
theorem lc_go {α β : Type} {enc : β → PyData} {enco : α → PyData} {g : GD} {wt : PWB} {we : PW} {ρ : En} {Q : List PyData → Prop} (f : β → Option α) : ∀ (xs : List β) (acc : List α),
    (∀ x ∈ xs, ∀ (Y : PyData → Prop) (N : Prop), (∀ y, f x = some y → Y (enco y)) → (f x = none → N) → g (enc x) ρ fun ρ2 => wt ρ2 (fun k => if k = true then we ρ2 Y (fun _ => False) else N) (fun _ => False)) →
    acc.length + xs.length ≤ 100000 → Q ((acc ++ xs.filterMap f).map enco) → goLc g wt we ρ (xs.map enc) (acc.map enco) Q
  | [], acc, h, hl, hQ => by
    rw [List.filterMap_nil, List.append_nil] at hQ
    exact hQ
  | x :: xs, acc, h, hl, hQ => by
    rw [List.length_cons] at hl
    refine h x List.mem_cons_self (fun y => _ ∧ _) _ (fun y hy => ?_) (fun hn => ?_)
    · refine ⟨lt_size (by rw [List.length_map]; omega), ?_⟩
      have := lc_go (enc := enc) (enco := enco) (g := g) (wt := wt) (we := we) (ρ := ρ) (Q := Q) f xs (acc ++ [y]) (fun z hz => h z (List.mem_cons_of_mem _ hz)) (by rw [List.length_append, List.length_singleton]; omega) (by
        rw [List.filterMap_cons_some hy] at hQ
        rwa [List.append_assoc])
      rwa [List.map_append] at this
    · exact lc_go f xs acc (fun z hz => h z (List.mem_cons_of_mem _ hz)) (by omega) (by rwa [List.filterMap_cons_none hn] at hQ)
/-- [e for x in xs if t] -/
theorem lc_all {α β : Type} {enc : β → PyData} {enco : α → PyData} {g : GD} {wt : PWB} {we : PW} {ρ : En} {Q : List PyData → Prop} (xs : List β) (f : β → Option α)
    (h : ∀ x ∈ xs, ∀ (Y : PyData → Prop) (N : Prop), (∀ y, f x = some y → Y (enco y)) → (f x = none → N) → g (enc x) ρ fun ρ2 => wt ρ2 (fun k => if k = true then we ρ2 Y (fun _ => False) else N) (fun _ => False))
    (hl : xs.length ≤ 100000) (hQ : Q ((xs.filterMap f).map enco)) : goLc g wt we ρ (xs.map enc) [] Q :=
  lc_go f xs [] h (by simpa using hl) hQ
/-- [e for x in xs] -/
theorem lc_map {α β : Type} {enc : β → PyData} {enco : α → PyData} {g : GD} {we : PW} {ρ : En} {Q : List PyData → Prop} (xs : List β) (f : β → α)
    (h : ∀ x ∈ xs, ∀ (Y : PyData → Prop), Y (enco (f x)) → g (enc x) ρ fun ρ2 => we ρ2 Y (fun _ => False))
    (hl : xs.length ≤ 100000) (hQ : Q ((xs.map f).map enco)) : goLc g wYes we ρ (xs.map enc) [] Q :=
  lc_all xs (fun x => some (f x)) (fun x hx Y N hY hN => by
    have := h x hx Y (hY _ rfl)
    exact this) hl (by rwa [show xs.filterMap (fun x => some (f x)) = xs.map f from List.filterMap_eq_map ▸ rfl])
/-- [x for x in xs if t] -/
theorem lc_filter {β : Type} {enc : β → PyData} {g : GD} {wt : PWB} {we : PW} {ρ : En} {Q : List PyData → Prop} (xs : List β) (p : β → Bool)
    (h : ∀ x ∈ xs, ∀ (Y : PyData → Prop) (N : Prop), (p x = true → Y (enc x)) → (p x = false → N) → g (enc x) ρ fun ρ2 => wt ρ2 (fun k => if k = true then we ρ2 Y (fun _ => False) else N) (fun _ => False))
    (hl : xs.length ≤ 100000) (hQ : Q ((xs.filter p).map enc)) : goLc g wt we ρ (xs.map enc) [] Q := by
  refine lc_all xs (fun x => if p x then some x else none) (fun x hx Y N hY hN => h x hx Y N (fun e => hY x (by rw [if_pos e])) (fun e => hN (by rw [if_neg (by rw [e]; decide)]))) hl ?_
  have : xs.filterMap (fun x => if p x then some x else none) = xs.filter p := by
    clear h hl hQ
    induction xs with
    | nil => rfl
    | cons x r ih =>
      cases e : p x with
      | true => rw [List.filterMap_cons_some (by rw [if_pos e]), List.filter_cons_of_pos e, ih]
      | false => rw [List.filterMap_cons_none (by rw [if_neg (by rw [e]; decide)]), List.filter_cons_of_neg (by rw [e]; decide), ih]
  rwa [this]
/-- any, all, sum of e for x in xs if t -/
theorem gen_all {α β : Type} {toD : α → PyData} {enc : β → PyData} {g : GD} {wt : PWB} {we : PW} {ρ : En} {P : List (Option α) → Prop} (xs : List β) (f : β → Option α)
    (h : ∀ x ∈ xs, g (enc x) ρ fun ρ2 => wt ρ2 (fun k => match f x with | some y => k = true ∧ we ρ2 (fun z => z = toD y) (fun _ => False) | none => k = false) (fun _ => False)) (hQ : ∀ bs, bs.filterMap id = xs.filterMap f → P bs) :
    ∃ bs : List (Option α), All2 (fun d ob => g d ρ fun ρ2 => wt ρ2 (fun k => match ob with | some y => k = true ∧ we ρ2 (fun z => z = toD y) (fun _ => False) | none => k = false) (fun _ => False)) (xs.map enc) bs ∧ P bs :=
  ⟨xs.map f, All2.map h, hQ _ (by rw [List.filterMap_map]; rfl)⟩
theorem gen_map {α β : Type} {toD : α → PyData} {enc : β → PyData} {g : GD} {we : PW} {ρ : En} {P : List (Option α) → Prop} (xs : List β) (f : β → α)
    (h : ∀ x ∈ xs, g (enc x) ρ fun ρ2 => true = true ∧ we ρ2 (fun z => z = toD (f x)) (fun _ => False)) (hQ : ∀ bs, bs.filterMap id = xs.map f → P bs) :
    ∃ bs : List (Option α), All2 (fun d ob => g d ρ fun ρ2 => wYes ρ2 (fun k => match ob with | some y => k = true ∧ we ρ2 (fun z => z = toD y) (fun _ => False) | none => k = false) (fun _ => False)) (xs.map enc) bs ∧ P bs :=
  gen_all (wt := wYes) xs (fun x => some (f x)) (fun x hx => h x hx) (fun bs e => hQ bs (e.trans (List.filterMap_eq_map ▸ rfl)))
/-! slices -/
theorem cut_hi {α : Type} (f : α → PyData) (ws : List α) {k : Nat} (h : k ≤ ws.length) : PL.cutD (ws.map f) none (some (k : Int)) = (ws.take k).map f := by
  unfold PL.cutD
  rw [HT.sIx_none, HT.sIx_nat, List.length_map, Nat.min_eq_left h, List.drop_zero, Nat.sub_zero, List.map_take]
theorem cut_lo {α : Type} (f : α → PyData) (ws : List α) {k : Nat} (h : k ≤ ws.length) : PL.cutD (ws.map f) (some (k : Int)) none = (ws.drop k).map f := by
  unfold PL.cutD
  rw [HT.sIx_none, HT.sIx_nat, List.length_map, Nat.min_eq_left h, ← List.map_drop, List.take_of_length_le (by rw [List.length_map, List.length_drop]; omega)]
theorem cut_seg {α : Type} (f : α → PyData) (ws : List α) {i j : Nat} (hi : i ≤ j) (h : j ≤ ws.length) : PL.cutD (ws.map f) (some (i : Int)) (some (j : Int)) = ((ws.drop i).take (j - i)).map f := by
  unfold PL.cutD
  rw [HT.sIx_nat, HT.sIx_nat, List.length_map, Nat.min_eq_left h, Nat.min_eq_left (Nat.le_trans hi h), ← List.map_drop, ← List.map_take]
/-! at a place -/
theorem at_nat {α : Type} (xs : List α) {i : Nat} : atI xs (i : Int) = xs[i]? := by
  unfold atI ixN
  by_cases h : i < xs.length
  · rw [if_pos (by omega), if_pos (by omega)]
    simp
  · rw [if_pos (by omega), if_neg (by omega), List.getElem?_eq_none (by omega)]
    rfl
theorem at_last {α : Type} (xs : List α) (x : α) : atI (xs ++ [x]) (-1) = some x := by
  unfold atI ixN
  rw [List.length_append, List.length_singleton, if_neg (by omega), if_pos (by omega)]
  show (xs ++ [x])[(-1 + ((xs.length + 1 : Nat) : Int)).toNat]? = _
  rw [show (-1 + ((xs.length + 1 : Nat) : Int)).toNat = xs.length by omega]
  simp
/-! least and greatest -/
section
variable {α : Type} [DecidableEq α] [DatumOrd α]
theorem p_min (x : α) (xs : List α) {Q : PyData → Prop} (h : Q (Datum.toD (PySem.W.minOf x xs))) (hd : Datum.depth α ≤ 30 := by decide) : fMin (.list ((x :: xs).map Datum.toD)) Q :=
  ⟨⟨PySem.W.plainAll_map (x :: xs), Nat.le_trans (PySem.W.depthAll_map (x :: xs)) hd, PySem.W.alikeAll_datum (x :: xs)⟩, by
    show Q (PySem.W.minD (Datum.toD x) (xs.map Datum.toD))
    rw [PySem.W.minD_map x xs]
    exact h⟩
theorem p_max (x : α) (xs : List α) {Q : PyData → Prop} (h : Q (Datum.toD (PySem.W.maxOf x xs))) (hd : Datum.depth α ≤ 30 := by decide) : fMax (.list ((x :: xs).map Datum.toD)) Q :=
  ⟨⟨PySem.W.plainAll_map (x :: xs), Nat.le_trans (PySem.W.depthAll_map (x :: xs)) hd, PySem.W.alikeAll_datum (x :: xs)⟩, by
    show Q (PySem.W.maxD (Datum.toD x) (xs.map Datum.toD))
    rw [PySem.W.maxD_map x xs]
    exact h⟩
theorem p_maxL {l : List α} {x : α} {xs : List α} (e : l = x :: xs) {Q : PyData → Prop} (h : Q (Datum.toD (PySem.W.maxOf x xs))) (hd : Datum.depth α ≤ 30 := by decide) : fMax (.list (l.map Datum.toD)) Q := by subst e; exact p_max x xs h hd
theorem p_minL {l : List α} {x : α} {xs : List α} (e : l = x :: xs) {Q : PyData → Prop} (h : Q (Datum.toD (PySem.W.minOf x xs))) (hd : Datum.depth α ≤ 30 := by decide) : fMin (.list (l.map Datum.toD)) Q := by subst e; exact p_min x xs h hd
theorem maxOf_mem (x : α) (xs : List α) : PySem.W.maxOf x xs ∈ x :: xs := by
  unfold PySem.W.maxOf
  induction xs generalizing x with
  | nil => exact List.mem_cons_self
  | cons y r ih =>
    rw [List.foldl_cons]
    split
    · exact List.mem_cons_of_mem _ (ih y)
    · rcases List.mem_cons.mp (ih x) with h | h
      · rw [h]; exact List.mem_cons_self
      · exact List.mem_cons_of_mem _ (List.mem_cons_of_mem _ h)
theorem minOf_mem (x : α) (xs : List α) : PySem.W.minOf x xs ∈ x :: xs := by
  unfold PySem.W.minOf
  induction xs generalizing x with
  | nil => exact List.mem_cons_self
  | cons y r ih =>
    rw [List.foldl_cons]
    split
    · exact List.mem_cons_of_mem _ (ih y)
    · rcases List.mem_cons.mp (ih x) with h | h
      · rw [h]; exact List.mem_cons_self
      · exact List.mem_cons_of_mem _ (List.mem_cons_of_mem _ h)
end
theorem minOf_int (x : Int) (xs : List Int) : ∀ y ∈ x :: xs, PySem.W.minOf x xs ≤ y := by
  unfold PySem.W.minOf
  induction xs generalizing x with
  | nil => intro y hy; rw [List.mem_singleton.mp hy]; exact Int.le_refl _
  | cons z r ih =>
    intro y hy
    rw [List.foldl_cons]
    have hz : (DatumOrd.lt z x = true) ↔ z < x := decide_eq_true_iff
    split
    · rename_i c
      rcases List.mem_cons.mp hy with rfl | hy
      · exact Int.le_trans (ih z z List.mem_cons_self) (Int.le_of_lt (hz.mp c))
      · exact ih z y hy
    · rename_i c
      rcases List.mem_cons.mp hy with rfl | hy
      · exact ih _ _ List.mem_cons_self
      · rcases List.mem_cons.mp hy with rfl | hy
        · exact Int.le_trans (ih x x List.mem_cons_self) (Int.not_lt.mp fun q => c (hz.mpr q))
        · exact ih x y (List.mem_cons_of_mem _ hy)
theorem maxOf_int (x : Int) (xs : List Int) : ∀ y ∈ x :: xs, y ≤ PySem.W.maxOf x xs := by
  unfold PySem.W.maxOf
  induction xs generalizing x with
  | nil => intro y hy; rw [List.mem_singleton.mp hy]; exact Int.le_refl _
  | cons z r ih =>
    intro y hy
    rw [List.foldl_cons]
    have hz : (DatumOrd.lt x z = true) ↔ x < z := decide_eq_true_iff
    split
    · rename_i c
      rcases List.mem_cons.mp hy with rfl | hy
      · exact Int.le_trans (Int.le_of_lt (hz.mp c)) (ih z z List.mem_cons_self)
      · exact ih z y hy
    · rename_i c
      rcases List.mem_cons.mp hy with rfl | hy
      · exact ih _ _ List.mem_cons_self
      · rcases List.mem_cons.mp hy with rfl | hy
        · exact Int.le_trans (Int.not_lt.mp fun q => c (hz.mpr q)) (ih x x List.mem_cons_self)
        · exact ih x y (List.mem_cons_of_mem _ hy)
/-! in order -/
theorem plainAll_ints : ∀ ns : List Int, PyData.plainAll (ns.map .int) = true
  | [] => rfl
  | n :: r => by
    show (PyData.plain (.int n) && PyData.plainAll (r.map .int)) = true
    rw [plainAll_ints r]
    rfl
theorem sort_ints (ns : List Int) : (ns.map PyData.int).mergeSort (PySem.W.dataLe false id) = (ns.mergeSort fun a b => decide (a ≤ b)).map .int := by
  refine (List.map_mergeSort fun a _ b _ => ?_).symm
  exact (congrFun (congrFun (PySem.W.dataLe_int id) a) b).symm
theorem sort_rev {ns : List Int} (h : ns.Pairwise (fun x y => y ≤ x)) : ns.mergeSort (fun a b => decide (a ≤ b)) = ns.reverse := by
  have h1 := List.pairwise_mergeSort (le := fun (a b : Int) => decide (a ≤ b)) (fun a b c x y => by simp only [decide_eq_true_eq] at *; omega) (fun a b => by simp only [Bool.or_eq_true, decide_eq_true_eq]; omega) ns
  have h2 : ns.reverse.Pairwise (fun a b => decide (a ≤ b) = true) := by
    rw [List.pairwise_reverse]
    exact h.imp fun h => decide_eq_true h
  exact List.Perm.eq_of_pairwise (fun a b _ _ x y => by simp only [decide_eq_true_eq] at *; omega) h1 h2 ((List.mergeSort_perm _ _).trans (List.reverse_perm _).symm)
theorem sort_side_ints (ns : List Int) : PyData.plainAll (ns.map .int) = true ∧ (∀ d ∈ ns.map PyData.int, d.depth ≤ 30) ∧ PySem.W.AllAlike (ns.map .int) ∧ PySem.W.Sortable (ns.map .int) := by
  refine ⟨plainAll_ints ns, fun d hd => ?_, PySem.W.AllAlike.of (enc := PyData.int) fun _ _ => rfl, PySem.W.Sortable.others (enc := PyData.int) fun b => ⟨fun e => (by cases e), fun _ e => (by cases e)⟩⟩
  obtain ⟨n, _, rfl⟩ := List.mem_map.mp hd
  exact Nat.zero_le _
end U
set_option Elab.async false
set_option linter.all false
set_option maxRecDepth 100000
set_option maxHeartbeats 4000000
namespace M14
open PySem PySem.Spec PyProof.Rows L2 PL
open LamX (lamS_by)
def top (i : Nat) : Stmt := PySem.Challenge.pw_museum_k14_loans_and_light.main.body.getD i (.Pass ⟨0, 0, 0, 0⟩)
abbrev s_check_loans : Stmt := top 7
abbrev s_clash : Stmt := top 12
abbrev s_clashes : Stmt := top 8
abbrev s_away : Stmt := top 9
abbrev s_most_away : Stmt := top 10
abbrev s_best_loans : Stmt := top 11
abbrev s_borne : Stmt := top 13
abbrev s_days_left : Stmt := top 14
abbrev s_by_turns : Stmt := top 15
abbrev s__law_dice : Stmt := top 17
abbrev s__law_roll : Stmt := top 18
abbrev s__law_rounds : Stmt := top 19
abbrev s__law_told : Stmt := top 20
abbrev s__law_light : Stmt := top 21
abbrev s_law : Stmt := top 22
theorem bt_abs : bootBuiltins "abs" = some (.builtin "abs") := by decide +kernel
theorem bt_int : bootBuiltins "int" = some (.type "int") := by decide +kernel
theorem bt_len : bootBuiltins "len" = some (.builtin "len") := by decide +kernel
theorem bt_list : bootBuiltins "list" = some (.type "list") := by decide +kernel
theorem bt_max : bootBuiltins "max" = some (.builtin "max") := by decide +kernel
theorem bt_min : bootBuiltins "min" = some (.builtin "min") := by decide +kernel
theorem bt_sorted : bootBuiltins "sorted" = some (.builtin "sorted") := by decide +kernel
theorem bt_sum : bootBuiltins "sum" = some (.builtin "sum") := by decide +kernel
theorem bt_tuple : bootBuiltins "tuple" = some (.type "tuple") := by decide +kernel
structure Ad where
  f_check_loans : Addr
  c_check_loans : Addr
  d_check_loans : FuncData
  p_check_loans : Addr
  f_clash : Addr
  c_clash : Addr
  d_clash : FuncData
  f_clashes : Addr
  c_clashes : Addr
  d_clashes : FuncData
  f_away : Addr
  c_away : Addr
  d_away : FuncData
  f_most_away : Addr
  c_most_away : Addr
  d_most_away : FuncData
  p_most_away : Addr
  f_best_loans : Addr
  c_best_loans : Addr
  d_best_loans : FuncData
  p_best_loans : Addr
  f_borne : Addr
  c_borne : Addr
  d_borne : FuncData
  f_days_left : Addr
  c_days_left : Addr
  d_days_left : FuncData
  f_by_turns : Addr
  c_by_turns : Addr
  d_by_turns : FuncData
  f__law_dice : Addr
  c__law_dice : Addr
  d__law_dice : FuncData
  f__law_roll : Addr
  c__law_roll : Addr
  d__law_roll : FuncData
  f__law_rounds : Addr
  c__law_rounds : Addr
  d__law_rounds : FuncData
  f__law_told : Addr
  c__law_told : Addr
  d__law_told : FuncData
  f__law_light : Addr
  c__law_light : Addr
  d__law_light : FuncData
  p__law_light : Addr
  f_law : Addr
  c_law : Addr
  d_law : FuncData
  p_law : Addr
  x_NoWay : Addr
  x_BadPlan : Addr
  x_BadPaper : Addr
  x_TooLarge : Addr
structure ExM (K : PySem.W.Frag) (mg : Str → Option Value) (x : Str) (C : Addr) : Prop where
  g : mg x = some (.ref C)
  kp : PySem.W.keepIn K (.ref C) = true
  sub : PySem.W.subIn K (.ref C) (.type "BaseException") = some true
  ty : PySem.W.typeIn K (.ref C) = some (.type "type")
structure Tx (a : Ad) (K : PySem.W.Frag) (mg : Str → Option Value) (base : Heap) (T : Tb) : Prop where
  m_abs : mg "abs" = none
  m_any : mg "any" = none
  m_dict : mg "dict" = none
  m_enumerate : mg "enumerate" = none
  m_int : mg "int" = none
  m_len : mg "len" = none
  m_list : mg "list" = none
  m_max : mg "max" = none
  m_min : mg "min" = none
  m_range : mg "range" = none
  m_sorted : mg "sorted" = none
  m_sum : mg "sum" = none
  m_tuple : mg "tuple" = none
  f_check_loans : FunC K "check_loans" s_check_loans a.f_check_loans a.c_check_loans a.d_check_loans
  g_check_loans : mg "check_loans" = some (.ref a.f_check_loans)
  t_check_loans : GxR.TabB base mg a.c_check_loans a.p_check_loans
  tm_check_loans : a.p_check_loans ∈ T.tg
  tn_check_loans : ∀ q ∈ T.tl, q.1 ≠ a.p_check_loans
  f_clash : FunC K "clash" s_clash a.f_clash a.c_clash a.d_clash
  g_clash : mg "clash" = some (.ref a.f_clash)
  f_clashes : FunC K "clashes" s_clashes a.f_clashes a.c_clashes a.d_clashes
  g_clashes : mg "clashes" = some (.ref a.f_clashes)
  f_away : FunC K "away" s_away a.f_away a.c_away a.d_away
  g_away : mg "away" = some (.ref a.f_away)
  f_most_away : FunC K "most_away" s_most_away a.f_most_away a.c_most_away a.d_most_away
  g_most_away : mg "most_away" = some (.ref a.f_most_away)
  t_most_away : GxR.TabB base mg a.c_most_away a.p_most_away
  tm_most_away : a.p_most_away ∈ T.tg
  tn_most_away : ∀ q ∈ T.tl, q.1 ≠ a.p_most_away
  f_best_loans : FunC K "best_loans" s_best_loans a.f_best_loans a.c_best_loans a.d_best_loans
  g_best_loans : mg "best_loans" = some (.ref a.f_best_loans)
  t_best_loans : GxR.TabB base mg a.c_best_loans a.p_best_loans
  tm_best_loans : a.p_best_loans ∈ T.tg
  tn_best_loans : ∀ q ∈ T.tl, q.1 ≠ a.p_best_loans
  f_borne : FunC K "borne" s_borne a.f_borne a.c_borne a.d_borne
  g_borne : mg "borne" = some (.ref a.f_borne)
  f_days_left : FunC K "days_left" s_days_left a.f_days_left a.c_days_left a.d_days_left
  g_days_left : mg "days_left" = some (.ref a.f_days_left)
  f_by_turns : FunC K "by_turns" s_by_turns a.f_by_turns a.c_by_turns a.d_by_turns
  g_by_turns : mg "by_turns" = some (.ref a.f_by_turns)
  f__law_dice : FunC K "_law_dice" s__law_dice a.f__law_dice a.c__law_dice a.d__law_dice
  g__law_dice : mg "_law_dice" = some (.ref a.f__law_dice)
  f__law_roll : FunC K "_law_roll" s__law_roll a.f__law_roll a.c__law_roll a.d__law_roll
  g__law_roll : mg "_law_roll" = some (.ref a.f__law_roll)
  f__law_rounds : FunC K "_law_rounds" s__law_rounds a.f__law_rounds a.c__law_rounds a.d__law_rounds
  g__law_rounds : mg "_law_rounds" = some (.ref a.f__law_rounds)
  f__law_told : FunC K "_law_told" s__law_told a.f__law_told a.c__law_told a.d__law_told
  g__law_told : mg "_law_told" = some (.ref a.f__law_told)
  f__law_light : FunC K "_law_light" s__law_light a.f__law_light a.c__law_light a.d__law_light
  g__law_light : mg "_law_light" = some (.ref a.f__law_light)
  l__law_light : LamX.TabB base mg a.c__law_light a.p__law_light
  lm__law_light : (a.p__law_light, (envOfC "_law_light" (defScope s__law_light) 0 0 (.ref 0)).qual ++ "<lambda>") ∈ T.tl
  lu__law_light : ∀ p ∈ T.tl, p.1 = a.p__law_light → p.2 = (envOfC "_law_light" (defScope s__law_light) 0 0 (.ref 0)).qual ++ "<lambda>"
  ln__law_light : a.p__law_light ∉ T.tg
  f_law : FunC K "law" s_law a.f_law a.c_law a.d_law
  g_law : mg "law" = some (.ref a.f_law)
  l_law : LamX.TabB base mg a.c_law a.p_law
  lm_law : (a.p_law, (envOfC "law" (defScope s_law) 0 0 (.ref 0)).qual ++ "<lambda>") ∈ T.tl
  lu_law : ∀ p ∈ T.tl, p.1 = a.p_law → p.2 = (envOfC "law" (defScope s_law) 0 0 (.ref 0)).qual ++ "<lambda>"
  ln_law : a.p_law ∉ T.tg
  x_NoWay : ExM K mg "NoWay" a.x_NoWay
  xe_NoWay : PySem.W.excIn K a.x_NoWay [.type "ValueError", .type "Exception", .type "BaseException", .type "object"] "ValueError.__new__" = true
  x_BadPlan : ExM K mg "BadPlan" a.x_BadPlan
  xe_BadPlan : PySem.W.excIn K a.x_BadPlan [.type "ValueError", .type "Exception", .type "BaseException", .type "object"] "ValueError.__new__" = true
  x_BadPaper : ExM K mg "BadPaper" a.x_BadPaper
  x_TooLarge : ExM K mg "TooLarge" a.x_TooLarge
  xe_TooLarge : PySem.W.excIn K a.x_TooLarge [.type "ValueError", .type "Exception", .type "BaseException", .type "object"] "ValueError.__new__" = true
  apart : Apart K [a.x_NoWay, a.x_BadPlan, a.x_BadPaper]
def hsT (a : Ad) : List (Addr × Str) := [(a.x_NoWay, "no way"), (a.x_BadPlan, "plan"), (a.x_BadPaper, "paper")]
abbrev N_check_loans : List Str := ["loans", "thing", "first", "last"]
theorem sc_check_loans : FnScope N_check_loans ["loans"] (defScope s_check_loans) := ⟨rfl, rfl, rfl, by decide +kernel, rfl, by decide +kernel, by decide +kernel⟩
abbrev N_clash : List Str := ["one", "other"]
theorem sc_clash : FnScope N_clash ["one", "other"] (defScope s_clash) := ⟨rfl, rfl, rfl, by decide +kernel, rfl, by decide +kernel, by decide +kernel⟩
abbrev N_clashes : List Str := ["loans", "found", "k", "thing", "first", "last", "j", "other", "low", "high"]
theorem sc_clashes : FnScope N_clashes ["loans"] (defScope s_clashes) := ⟨rfl, rfl, rfl, by decide +kernel, rfl, by decide +kernel, by decide +kernel⟩
abbrev N_away : List Str := ["loans", "day", "thing", "first", "last"]
theorem sc_away : FnScope N_away ["loans", "day"] (defScope s_away) := ⟨rfl, rfl, rfl, by decide +kernel, rfl, by decide +kernel, by decide +kernel⟩
abbrev N_most_away : List Str := ["loans", "worths", "best", "day", "here", "thing", "first", "last"]
theorem sc_most_away : FnScope N_most_away ["loans", "worths"] (defScope s_most_away) := ⟨rfl, rfl, rfl, by decide +kernel, rfl, by decide +kernel, by decide +kernel⟩
abbrev N_best_loans : List Str := ["loans", "pay", "rows", "k", "best", "one", "row", "j"]
theorem sc_best_loans : FnScope N_best_loans ["loans", "pay"] (defScope s_best_loans) := ⟨rfl, rfl, rfl, by decide +kernel, rfl, by decide +kernel, by decide +kernel⟩
abbrev N_borne : List Str := ["shows", "lux", "table", "thing", "first", "last", "room"]
theorem sc_borne : FnScope N_borne ["shows", "lux"] (defScope s_borne) := ⟨rfl, rfl, rfl, by decide +kernel, rfl, by decide +kernel, by decide +kernel⟩
abbrev N_days_left : List Str := ["shows", "lux", "thing", "most", "room", "have"]
theorem sc_days_left : FnScope N_days_left ["shows", "lux", "thing", "most", "room"] (defScope s_days_left) := ⟨rfl, rfl, rfl, by decide +kernel, rfl, by decide +kernel, by decide +kernel⟩
abbrev N_by_turns : List Str := ["things", "places", "days", "most", "found", "k", "day"]
theorem sc_by_turns : FnScope N_by_turns ["things", "places", "days", "most"] (defScope s_by_turns) := ⟨rfl, rfl, rfl, by decide +kernel, rfl, by decide +kernel, by decide +kernel⟩
abbrev N__law_dice : List Str := ["cell"]
theorem sc__law_dice : FnScope N__law_dice ["cell"] (defScope s__law_dice) := ⟨rfl, rfl, rfl, by decide +kernel, rfl, by decide +kernel, by decide +kernel⟩
abbrev N__law_roll : List Str := ["dice", "many", "found"]
theorem sc__law_roll : FnScope N__law_roll ["dice", "many"] (defScope s__law_roll) := ⟨rfl, rfl, rfl, by decide +kernel, rfl, by decide +kernel, by decide +kernel⟩
abbrev N__law_rounds : List Str := ["script", "most", "cells", "cell"]
theorem sc__law_rounds : FnScope N__law_rounds ["script", "most"] (defScope s__law_rounds) := ⟨rfl, rfl, rfl, by decide +kernel, rfl, by decide +kernel, by decide +kernel⟩
abbrev N__law_told : List Str := ["what"]
theorem sc__law_told : FnScope N__law_told ["what"] (defScope s__law_told) := ⟨rfl, rfl, rfl, by decide +kernel, rfl, by decide +kernel, by decide +kernel⟩
abbrev N__law_light : List Str := ["dice", "shows", "lux", "k", "first", "table", "thing", "much", "most", "room", "have", "told", "things", "time", "at_once", "rows", "often", "one", "last", "show", "row"]
theorem sc__law_light : FnScope N__law_light ["dice"] (defScope s__law_light) := ⟨rfl, rfl, rfl, by decide +kernel, rfl, by decide +kernel, by decide +kernel⟩
abbrev N_law : List Str := ["script", "dice", "loans", "pay", "k", "first", "days", "thing", "last", "bad", "worths", "best", "day", "gone", "much", "sets", "good", "j", "one", "pair", "row"]
theorem sc_law : FnScope N_law ["script"] (defScope s_law) := ⟨rfl, rfl, rfl, by decide +kernel, rfl, by decide +kernel, by decide +kernel⟩
section
variable {P : Program} {w : World} {K : PySem.W.Frag} {mg : Str → Option Value} {base : Heap} {T : Tb} {a : Ad}
theorem bi_check_loans (t : Tx a K mg base T) : L2.Binds K a.d_check_loans ["loans"] [] := t.f_check_loans.binds (ps := ["loans"]) fun _ _ _ _ _ _ us hl => match us, hl with | [_], _ => rfl
theorem bi_clash (t : Tx a K mg base T) : L2.Binds K a.d_clash ["one", "other"] [] := t.f_clash.binds (ps := ["one", "other"]) fun _ _ _ _ _ _ us hl => match us, hl with | [_, _], _ => rfl
theorem bi_clashes (t : Tx a K mg base T) : L2.Binds K a.d_clashes ["loans"] [] := t.f_clashes.binds (ps := ["loans"]) fun _ _ _ _ _ _ us hl => match us, hl with | [_], _ => rfl
theorem bi_away (t : Tx a K mg base T) : L2.Binds K a.d_away ["loans", "day"] [] := t.f_away.binds (ps := ["loans", "day"]) fun _ _ _ _ _ _ us hl => match us, hl with | [_, _], _ => rfl
theorem bi_most_away (t : Tx a K mg base T) : L2.Binds K a.d_most_away ["loans", "worths"] [] := t.f_most_away.binds (ps := ["loans", "worths"]) fun _ _ _ _ _ _ us hl => match us, hl with | [_, _], _ => rfl
theorem bi_best_loans (t : Tx a K mg base T) : L2.Binds K a.d_best_loans ["loans", "pay"] [] := t.f_best_loans.binds (ps := ["loans", "pay"]) fun _ _ _ _ _ _ us hl => match us, hl with | [_, _], _ => rfl
theorem bi_borne (t : Tx a K mg base T) : L2.Binds K a.d_borne ["shows", "lux"] [] := t.f_borne.binds (ps := ["shows", "lux"]) fun _ _ _ _ _ _ us hl => match us, hl with | [_, _], _ => rfl
theorem bi_days_left (t : Tx a K mg base T) : L2.Binds K a.d_days_left ["shows", "lux", "thing", "most", "room"] [] := t.f_days_left.binds (ps := ["shows", "lux", "thing", "most", "room"]) fun _ _ _ _ _ _ us hl => match us, hl with | [_, _, _, _, _], _ => rfl
theorem bi_by_turns (t : Tx a K mg base T) : L2.Binds K a.d_by_turns ["things", "places", "days", "most"] [] := t.f_by_turns.binds (ps := ["things", "places", "days", "most"]) fun _ _ _ _ _ _ us hl => match us, hl with | [_, _, _, _], _ => rfl
theorem bi__law_dice (t : Tx a K mg base T) : L2.Binds K a.d__law_dice ["cell"] [] := t.f__law_dice.binds (ps := ["cell"]) fun _ _ _ _ _ _ us hl => match us, hl with | [_], _ => rfl
theorem bi__law_roll (t : Tx a K mg base T) : L2.Binds K a.d__law_roll ["dice", "many"] [] := t.f__law_roll.binds (ps := ["dice", "many"]) fun _ _ _ _ _ _ us hl => match us, hl with | [_, _], _ => rfl
theorem bi__law_rounds (t : Tx a K mg base T) : L2.Binds K a.d__law_rounds ["script", "most"] [] := t.f__law_rounds.binds (ps := ["script", "most"]) fun _ _ _ _ _ _ us hl => match us, hl with | [_, _], _ => rfl
theorem bi__law_told (t : Tx a K mg base T) : L2.Binds K a.d__law_told ["what"] [] := t.f__law_told.binds (ps := ["what"]) fun _ _ _ _ _ _ us hl => match us, hl with | [_], _ => rfl
theorem bi__law_light (t : Tx a K mg base T) : L2.Binds K a.d__law_light ["dice"] [] := t.f__law_light.binds (ps := ["dice"]) fun _ _ _ _ _ _ us hl => match us, hl with | [_], _ => rfl
theorem bi_law (t : Tx a K mg base T) : L2.Binds K a.d_law ["script"] [] := t.f_law.binds (ps := ["script"]) fun _ _ _ _ _ _ us hl => match us, hl with | [_], _ => rfl
def u_check_loans (a : Ad) : SW :=
 (sIf (wT (wGen PyData.bool (wItL (wVar 0)) (gTupD 3 (gConsD (gNameD 1) (gConsD (gNameD 2) (gConsD (gNameD 3) gNilD)))) wYes (wNotV (wCh (fC fun i j => decide (i ≤ j)) (fC fun i j => decide (i < j)) (wC (.int 0)) (wVar 2) (wVar 3))) [1, 2, 3] rAnyD)) (sRaise a.x_BadPlan) sNil)
def c_check_loans (a : Ad) : PW := cOf N_check_loans (u_check_loans a)
theorem dd_check_loans (t : Tx a K mg base T) (A : Around) (outer : List Env) (s : Shared) (H : Hp) (E : XK) (hr : Room 10 (A.deeper (envOfC "check_loans" (defScope s_check_loans) s.heap.objs.size a.f_check_loans (.ref a.c_check_loans)))) :
  DSs T (cxOf (L2.CX P w) P w K mg base N_check_loans "check_loans" (defScope s_check_loans) a.f_check_loans (.ref a.c_check_loans) A outer s H E) (fun cls d _ H => E cls d H) (defBody s_check_loans) (u_check_loans a) :=
 (dss_one (ds_if (dt_val (de_gen (toD := PyData.bool) (toV := V.bl) (R := rAnyD) (vR := (fun l => .bl (l.any id))) false hTB (fun _ _ _ => .bl _) (k := 9) hrr_any (GxI.gx_any hr) (by rfl) t.m_any hr (by rfl) sc_check_loans.nd t.t_check_loans t.tm_check_loans t.tn_check_loans (by rfl) ⟨by rfl, nocell_by (by rfl), by rfl⟩ (blk_by (own := [("thing", 1), ("first", 2), ("last", 3)]) (by rfl)) (sl := ([1] ++ ([2] ++ ([3] ++ [])))) (by decide) (di_list (de_var 0 (pv 0))) (fun _ _ _ _ _ _ _ => (dg_tup (by rfl) (dgs_cons (dg_name 1 (pg_name sc_check_loans.nd rfl (by first | exact .inl rfl | exact .inr rfl))) (dgs_cons (dg_name 2 (pg_name sc_check_loans.nd rfl (by first | exact .inl rfl | exact .inr rfl))) (dgs_cons (dg_name 3 (pg_name sc_check_loans.nd rfl (by first | exact .inl rfl | exact .inr rfl))) dgs_nil))))) (fun _ _ _ _ _ _ _ hR => dts_nil) (fun _ _ _ _ _ _ _ hR => (de_not (de_chain opD_leI opD_ltI mono_fC mono_fC de_int (de_var 2 (pv 2)) (de_var 3 (pv 3)))))))
 (dss_one (ds_raise rfl (takes_of rfl rfl rfl rfl) (pmk_own PySem.F.excBase_ValueError t.xe_BadPlan t.x_BadPlan.g t.x_BadPlan.kp (raises_own t.x_BadPlan.sub t.x_BadPlan.ty) rfl))) dss_nil))
theorem mono_check_loans (t : Tx a K mg base T) (w : World) (s : Shared) {A : Around} (hr : Room (10 + 1) A) : Mono (c_check_loans a) := mono_cOf (dd_check_loans (P := PySem.Challenge.pw_museum_k14_loans_and_light) (w := w) t A [] s (fun _ => none) (fun _ _ _ => False) (hr.deeper _)).mono
theorem ok_check_loans (t : Tx a K mg base T) : FnOk P w K mg base (L2.CX P w) (10 + 1) a.f_check_loans a.d_check_loans ["loans"] (spD T K 1 (c_check_loans a)) := fn_okD t.f_check_loans sc_check_loans fun A outer s H E hr => dd_check_loans t A outer s H E hr
def u_clash (a : Ad) : SW :=
 (sRet (wAndV (w2 (fEq false) (w2 fIx (wRd 0) (wC (.int 0))) (w2 fIx (wRd 1) (wC (.int 0)))) (wAndV (w2 (fC fun i j => decide (i < j)) (w2 fIx (wRd 0) (wC (.int 1))) (w2 fIx (wRd 1) (wC (.int 2)))) (w2 (fC fun i j => decide (i < j)) (w2 fIx (wRd 1) (wC (.int 1))) (w2 fIx (wRd 0) (wC (.int 2)))))))
def c_clash (a : Ad) : PW := cOf N_clash (u_clash a)
theorem dd_clash (t : Tx a K mg base T) (A : Around) (outer : List Env) (s : Shared) (H : Hp) (E : XK) (hr : Room 8 (A.deeper (envOfC "clash" (defScope s_clash) s.heap.objs.size a.f_clash (.ref a.c_clash)))) :
  DSs T (cxOf (L2.CX P w) P w K mg base N_clash "clash" (defScope s_clash) a.f_clash (.ref a.c_clash) A outer s H E) (fun cls d _ H => E cls d H) (defBody s_clash) (u_clash a) :=
 (dss_one (ds_ret (de_and (de_cmp (opD_eq hr) mono_eq (dr_of (de_ix (dr_var 0 (pv 0)) (dr_of de_int))) (dr_of (de_ix (dr_var 1 (pv 1)) (dr_of de_int))) (by rfl)) (de_and (de_cmp opD_ltI mono_fC (dr_of (de_ix (dr_var 0 (pv 0)) (dr_of de_int))) (dr_of (de_ix (dr_var 1 (pv 1)) (dr_of de_int))) (by rfl)) (de_one (de_cmp opD_ltI mono_fC (dr_of (de_ix (dr_var 1 (pv 1)) (dr_of de_int))) (dr_of (de_ix (dr_var 0 (pv 0)) (dr_of de_int))) (by rfl)))))))
theorem mono_clash (t : Tx a K mg base T) (w : World) (s : Shared) {A : Around} (hr : Room (8 + 1) A) : Mono (c_clash a) := mono_cOf (dd_clash (P := PySem.Challenge.pw_museum_k14_loans_and_light) (w := w) t A [] s (fun _ => none) (fun _ _ _ => False) (hr.deeper _)).mono
theorem ok_clash (t : Tx a K mg base T) : FnOk P w K mg base (L2.CX P w) (8 + 1) a.f_clash a.d_clash ["one", "other"] (spD T K 2 (c_clash a)) := fn_okD t.f_clash sc_clash fun A outer s H E hr => dd_clash t A outer s H E hr
def u_clashes (a : Ad) : SW :=
 (sSeq (sEx (wCall 1 (c_check_loans a) (wpSh (wVar 0) wpNil)))
 (sSeq (sOwn 1 (wLst wNil))
 (sSeq (sFor (wItE (wVar 0)) (gTupD 2 (gConsD (gNameD 2) (gConsD (gTupD 3 (gConsD (gNameD 3) (gConsD (gNameD 4) (gConsD (gNameD 5) gNilD)))) gNilD)))
 (sFor (wItE (wSl fSlL (wRd 0) wNo (wSo (wVar 2)))) (gTupD 2 (gConsD (gNameD 6) (gConsD (gTupD 3 (gConsD (gNameD 7) (gConsD (gNameD 8) (gConsD (gNameD 9) gNilD)))) gNilD)))
 (sIf (wAnd (wT (w2 (fEq false) (wRd 3) (wRd 7))) (wAnd (wT (w2 (fC fun i j => decide (i < j)) (wRd 4) (wRd 9))) (wT (w2 (fC fun i j => decide (i < j)) (wRd 8) (wRd 5))))) (sApp 1 (wTup (wCons (wVar 6) (wCons (wVar 2) wNil)))) sNil)))
 (sRet (w1 fTuple (w1 fSorted (wRd 1)))))))
def c_clashes (a : Ad) : PW := cOf N_clashes (u_clashes a)
theorem dd_clashes (t : Tx a K mg base T) (A : Around) (outer : List Env) (s : Shared) (H : Hp) (E : XK) (hr : Room 14 (A.deeper (envOfC "clashes" (defScope s_clashes) s.heap.objs.size a.f_clashes (.ref a.c_clashes)))) :
  DSs T (cxOf (L2.CX P w) P w K mg base N_clashes "clashes" (defScope s_clashes) a.f_clashes (.ref a.c_clashes) A outer s H E) (fun cls d _ H => E cls d H) (defBody s_clashes) (u_clashes a) :=
 (dss_cons (ds_ex (de_call (ok_check_loans t) (mono_check_loans t w s (hr.mono (by decide))) (hr.mono (by decide)) (by rfl) t.g_check_loans t.f_check_loans.kp (bi_check_loans t) (takes_of rfl rfl rfl rfl) (dp_sh (de_var 0 (pv 0)) dp_nil)))
 (dss_cons (ds_own (i := 1) sc_clashes.nd rfl (by first | exact .inl rfl | exact .inr rfl) (df_lst da_nil))
 (dss_cons (ds_for (passes_of rfl) rfl (di_enum (by rfl) t.m_enumerate (de_var 0 (pv 0))) (dg_tup (by rfl) (dgs_cons (dg_name 2 (pg_name sc_clashes.nd rfl (by first | exact .inl rfl | exact .inr rfl))) (dgs_cons (dg_tup (by rfl) (dgs_cons (dg_name 3 (pg_name sc_clashes.nd rfl (by first | exact .inl rfl | exact .inr rfl))) (dgs_cons (dg_name 4 (pg_name sc_clashes.nd rfl (by first | exact .inl rfl | exact .inr rfl))) (dgs_cons (dg_name 5 (pg_name sc_clashes.nd rfl (by first | exact .inl rfl | exact .inr rfl))) dgs_nil)))) dgs_nil)))
 (dss_one (ds_for (passes_of rfl) rfl (di_enum (by rfl) t.m_enumerate (de_fresh (df_sl (dr_var 0 (pv 0)) do_none (do_some (de_var 2 (pv 2)))))) (dg_tup (by rfl) (dgs_cons (dg_name 6 (pg_name sc_clashes.nd rfl (by first | exact .inl rfl | exact .inr rfl))) (dgs_cons (dg_tup (by rfl) (dgs_cons (dg_name 7 (pg_name sc_clashes.nd rfl (by first | exact .inl rfl | exact .inr rfl))) (dgs_cons (dg_name 8 (pg_name sc_clashes.nd rfl (by first | exact .inl rfl | exact .inr rfl))) (dgs_cons (dg_name 9 (pg_name sc_clashes.nd rfl (by first | exact .inl rfl | exact .inr rfl))) dgs_nil)))) dgs_nil)))
 (dss_one (ds_if (dt_bool (dw_and (dt_cmp (opD_eq hr) mono_eq (dr_var 3 (pv 3)) (dr_var 7 (pv 7)) (by rfl)) (dw_and (dt_cmp opD_ltI mono_fC (dr_var 4 (pv 4)) (dr_var 9 (pv 9)) (by rfl)) (dw_and1 (dt_cmp opD_ltI mono_fC (dr_var 8 (pv 8)) (dr_var 5 (pv 5)) (by rfl))))))
 (dss_one (ds_app (i := 1) (pv 1) (de_tup (da_cons (de_var 6 (pv 6)) (da_cons (de_var 2 (pv 2)) da_nil))))) dss_nil)))))
 (dss_one (ds_ret (de_callTy cd_tuple mono_tuple (by rfl) t.m_tuple bt_tuple (dr_of (de_fresh (df_callB (cf_sorted hr) mono_sorted (by rfl) t.m_sorted bt_sorted (dr_var 1 (pv 1)))))))))))
theorem mono_clashes (t : Tx a K mg base T) (w : World) (s : Shared) {A : Around} (hr : Room (14 + 1) A) : Mono (c_clashes a) := mono_cOf (dd_clashes (P := PySem.Challenge.pw_museum_k14_loans_and_light) (w := w) t A [] s (fun _ => none) (fun _ _ _ => False) (hr.deeper _)).mono
theorem ok_clashes (t : Tx a K mg base T) : FnOk P w K mg base (L2.CX P w) (14 + 1) a.f_clashes a.d_clashes ["loans"] (spD T K 1 (c_clashes a)) := fn_okD t.f_clashes sc_clashes fun A outer s H E hr => dd_clashes t A outer s H E hr
def u_away (a : Ad) : SW :=
 (sSeq (sEx (wCall 1 (c_check_loans a) (wpSh (wVar 0) wpNil)))
 (sRet (w1 fTuple (wSortSc (wSc (wItL (wVar 0)) (gTupD 3 (gConsD (gNameD 2) (gConsD (gNameD 3) (gConsD (gNameD 4) gNilD)))) (wT (wCh (fC fun i j => decide (i ≤ j)) (fC fun i j => decide (i < j)) (wVar 3) (wVar 1) (wVar 4))) (wVar 2) [2, 3, 4])))))
def c_away (a : Ad) : PW := cOf N_away (u_away a)
theorem dd_away (t : Tx a K mg base T) (A : Around) (outer : List Env) (s : Shared) (H : Hp) (E : XK) (hr : Room 14 (A.deeper (envOfC "away" (defScope s_away) s.heap.objs.size a.f_away (.ref a.c_away)))) :
  DSs T (cxOf (L2.CX P w) P w K mg base N_away "away" (defScope s_away) a.f_away (.ref a.c_away) A outer s H E) (fun cls d _ H => E cls d H) (defBody s_away) (u_away a) :=
 (dss_cons (ds_ex (de_call (ok_check_loans t) (mono_check_loans t w s (hr.mono (by decide))) (hr.mono (by decide)) (by rfl) t.g_check_loans t.f_check_loans.kp (bi_check_loans t) (takes_of rfl rfl rfl rfl) (dp_sh (de_var 0 (pv 0)) dp_nil)))
 (dss_one (ds_ret (de_callTy cd_tuple mono_tuple (by rfl) t.m_tuple bt_tuple (dr_of (de_fresh (df_sortsc (x := "sorted") hr rfl (by rfl) t.m_sorted (dq_sc (by rfl) sc_away.nd (di_list (de_var 0 (pv 0))) (blk_by (own := [("thing", 2), ("first", 3), ("last", 4)]) (by rfl)) (sl := ([2] ++ ([3] ++ ([4] ++ [])))) (by decide) (fun _ _ _ _ _ => (dg_tup (by rfl) (dgs_cons (dg_name 2 (pg_name sc_away.nd rfl (by first | exact .inl rfl | exact .inr rfl))) (dgs_cons (dg_name 3 (pg_name sc_away.nd rfl (by first | exact .inl rfl | exact .inr rfl))) (dgs_cons (dg_name 4 (pg_name sc_away.nd rfl (by first | exact .inl rfl | exact .inr rfl))) dgs_nil))))) (fun _ _ _ _ _ => (dts_one (dt_chain opD_leI opD_ltI mono_fC mono_fC (de_var 3 (pv 3)) (de_var 1 (pv 1)) (de_var 4 (pv 4))))) (fun _ _ _ _ _ => (de_var 2 (pv 2)))))))))))
theorem mono_away (t : Tx a K mg base T) (w : World) (s : Shared) {A : Around} (hr : Room (14 + 1) A) : Mono (c_away a) := mono_cOf (dd_away (P := PySem.Challenge.pw_museum_k14_loans_and_light) (w := w) t A [] s (fun _ => none) (fun _ _ _ => False) (hr.deeper _)).mono
theorem ok_away (t : Tx a K mg base T) : FnOk P w K mg base (L2.CX P w) (14 + 1) a.f_away a.d_away ["loans", "day"] (spD T K 2 (c_away a)) := fn_okD t.f_away sc_away fun A outer s H E hr => dd_away t A outer s H E hr
def u_most_away (a : Ad) : SW :=
 (sSeq (sSet 2 (wTup (wCons (wC (.int 0)) (wCons (wC (.int 0)) wNil))))
 (sSeq (sFor (wItL (wSortSc (wSc (wItL (wVar 0)) (gTupD 3 (gConsD (gNameD 5) (gConsD (gNameD 6) (gConsD (gNameD 7) gNilD)))) wYes (wVar 6) [5, 6, 7]))) (gNameD 3)
 (sSeq (sSet 4 (wGen PyData.int (wItT (wCall 2 (c_away a) (wpSh (wVar 0) (wpSh (wVar 3) wpNil)))) (gNameD 5) wYes (wDIx 1 (wVar 5)) [5] rSumD))
 (sIf (wT (w2 (fC fun i j => decide (j < i)) (wRd 4) (w2 fIx (wRd 2) (wC (.int 0))))) (sSet 2 (wTup (wCons (wVar 4) (wCons (wVar 3) wNil)))) sNil)))
 (sRet (wVar 2))))
def c_most_away (a : Ad) : PW := cOf N_most_away (u_most_away a)
theorem dd_most_away (t : Tx a K mg base T) (A : Around) (outer : List Env) (s : Shared) (H : Hp) (E : XK) (hr : Room 20 (A.deeper (envOfC "most_away" (defScope s_most_away) s.heap.objs.size a.f_most_away (.ref a.c_most_away)))) :
  DSs T (cxOf (L2.CX P w) P w K mg base N_most_away "most_away" (defScope s_most_away) a.f_most_away (.ref a.c_most_away) A outer s H E) (fun cls d _ H => E cls d H) (defBody s_most_away) (u_most_away a) :=
 (dss_cons (ds_set (i := 2) sc_most_away.nd rfl (by first | exact .inl rfl | exact .inr rfl) (de_tup (da_cons de_int (da_cons de_int da_nil))))
 (dss_cons (ds_for (passes_of rfl) rfl (di_list (de_fresh (df_sortsc (x := "sorted") hr rfl (by rfl) t.m_sorted (dq_sc (by rfl) sc_most_away.nd (di_list (de_var 0 (pv 0))) (blk_by (own := [("thing", 5), ("first", 6), ("last", 7)]) (by rfl)) (sl := ([5] ++ ([6] ++ ([7] ++ [])))) (by decide) (fun _ _ _ _ _ => (dg_tup (by rfl) (dgs_cons (dg_name 5 (pg_name sc_most_away.nd rfl (by first | exact .inl rfl | exact .inr rfl))) (dgs_cons (dg_name 6 (pg_name sc_most_away.nd rfl (by first | exact .inl rfl | exact .inr rfl))) (dgs_cons (dg_name 7 (pg_name sc_most_away.nd rfl (by first | exact .inl rfl | exact .inr rfl))) dgs_nil))))) (fun _ _ _ _ _ => dts_nil) (fun _ _ _ _ _ => (de_var 6 (pv 6))))))) (dg_name 3 (pg_name sc_most_away.nd rfl (by first | exact .inl rfl | exact .inr rfl)))
 (dss_cons (ds_set (i := 4) sc_most_away.nd rfl (by first | exact .inl rfl | exact .inr rfl) (de_gen (toD := PyData.int) (toV := V.int) (R := rSumD) (vR := (fun l => .int l.sum)) 0 hTI (fun _ _ _ => .int _) (k := 19) hrr_sum (GxI.gx_sum hr) (by rfl) t.m_sum hr (by rfl) sc_most_away.nd t.t_most_away t.tm_most_away t.tn_most_away (by rfl) ⟨by rfl, nocell_by (by rfl), by rfl⟩ (blk_by (own := [("thing", 5)]) (by rfl)) (sl := [5]) (by decide) (di_tup (de_call (ok_away t) (mono_away t w s (hr.mono (by decide))) (hr.mono (by decide)) (by rfl) t.g_away t.f_away.kp (bi_away t) (takes_of rfl rfl rfl rfl) (dp_sh (de_var 0 (pv 0)) (dp_sh (de_var 3 (pv 3)) dp_nil)))) (fun _ _ _ _ _ _ _ => (dg_name 5 (pg_name sc_most_away.nd rfl (by first | exact .inl rfl | exact .inr rfl)))) (fun _ _ _ _ _ _ _ hR => dts_nil) (fun _ _ _ _ _ _ _ hR => (de_dcx (i := 1) hR (pv 1) (de_var 5 (pv 5)) (fun _ _ => rfl)))))
 (dss_one (ds_if (dt_cmp opD_gtI mono_fC (dr_var 4 (pv 4)) (dr_of (de_ix (dr_var 2 (pv 2)) (dr_of de_int))) (by rfl))
 (dss_one (ds_set (i := 2) sc_most_away.nd rfl (by first | exact .inl rfl | exact .inr rfl) (de_tup (da_cons (de_var 4 (pv 4)) (da_cons (de_var 3 (pv 3)) da_nil))))) dss_nil))))
 (dss_one (ds_ret (de_var 2 (pv 2))))))
theorem mono_most_away (t : Tx a K mg base T) (w : World) (s : Shared) {A : Around} (hr : Room (20 + 1) A) : Mono (c_most_away a) := mono_cOf (dd_most_away (P := PySem.Challenge.pw_museum_k14_loans_and_light) (w := w) t A [] s (fun _ => none) (fun _ _ _ => False) (hr.deeper _)).mono
theorem ok_most_away (t : Tx a K mg base T) : FnOk P w K mg base (L2.CX P w) (20 + 1) a.f_most_away a.d_most_away ["loans", "worths"] (spD T K 2 (c_most_away a)) := fn_okD t.f_most_away sc_most_away fun A outer s H E hr => dd_most_away t A outer s H E hr
def u_best_loans (a : Ad) : SW :=
 (sSeq (sEx (wCall 1 (c_check_loans a) (wpSh (wVar 0) wpNil)))
 (sSeq (sIf (wT (wGen PyData.bool (wItL (wVar 1)) (gNameD 5) wYes (w2 (fC fun i j => decide (i < j)) (wRd 5) (wC (.int 1))) [5] rAnyD)) (sRaise a.x_BadPlan) sNil)
 (sSeq (sIf (wT (w2 (fC fun i j => decide (j < i)) (w1 fLen (wRd 0)) (wC (.int 12)))) (sRaise a.x_TooLarge) sNil)
 (sSeq (sSet 2 (wLst (wCons (wTup wNil) wNil)))
 (sSeq (sFor (wRng1 (wCons (w1 fLen (wRd 0)) wNil)) (gNameD 3)
 (sSet 2 (w2 fCat (wRd 2) (wLc (wItL (wVar 2)) (gNameD 6) (wNot (wT (wGen PyData.bool (wItT (wVar 6)) (gNameD 7) wYes (wCall 2 (c_clash a) (wpSh (w2 fIx (wRd 0) (wRd 7)) (wpSh (w2 fIx (wRd 0) (wRd 3)) wpNil))) [7] rAnyD))) (w2 fAdd (wRd 6) (wTup (wCons (wVar 3) wNil))) [6]))))
 (sSeq (sSet 4 (w1 fMin (wLc (wItL (wVar 2)) (gNameD 6) wYes (wTup (wCons (wNeg (wGen PyData.int (wItT (wVar 6)) (gNameD 3) wYes (w2 fIx (wRd 1) (wRd 3)) [3] rSumD)) (wCons (wVar 6) wNil))) [6])))
 (sRet (wTup (wCons (wNeg (w2 fIx (wRd 4) (wC (.int 0)))) (wCons (w2 fIx (wRd 4) (wC (.int 1))) wNil))))))))))
def c_best_loans (a : Ad) : PW := cOf N_best_loans (u_best_loans a)
theorem dd_best_loans (t : Tx a K mg base T) (A : Around) (outer : List Env) (s : Shared) (H : Hp) (E : XK) (hr : Room 20 (A.deeper (envOfC "best_loans" (defScope s_best_loans) s.heap.objs.size a.f_best_loans (.ref a.c_best_loans)))) :
  DSs T (cxOf (L2.CX P w) P w K mg base N_best_loans "best_loans" (defScope s_best_loans) a.f_best_loans (.ref a.c_best_loans) A outer s H E) (fun cls d _ H => E cls d H) (defBody s_best_loans) (u_best_loans a) :=
 (dss_cons (ds_ex (de_call (ok_check_loans t) (mono_check_loans t w s (hr.mono (by decide))) (hr.mono (by decide)) (by rfl) t.g_check_loans t.f_check_loans.kp (bi_check_loans t) (takes_of rfl rfl rfl rfl) (dp_sh (de_var 0 (pv 0)) dp_nil)))
 (dss_cons (ds_if (dt_val (de_gen (toD := PyData.bool) (toV := V.bl) (R := rAnyD) (vR := (fun l => .bl (l.any id))) false hTB (fun _ _ _ => .bl _) (k := 19) hrr_any (GxI.gx_any hr) (by rfl) t.m_any hr (by rfl) sc_best_loans.nd t.t_best_loans t.tm_best_loans t.tn_best_loans (by rfl) ⟨by rfl, nocell_by (by rfl), by rfl⟩ (blk_by (own := [("one", 5)]) (by rfl)) (sl := [5]) (by decide) (di_list (de_var 1 (pv 1))) (fun _ _ _ _ _ _ _ => (dg_name 5 (pg_name sc_best_loans.nd rfl (by first | exact .inl rfl | exact .inr rfl)))) (fun _ _ _ _ _ _ _ hR => dts_nil) (fun _ _ _ _ _ _ _ hR => (de_cmp opD_ltI mono_fC (dr_var 5 (pv 5)) (dr_of de_int) (by rfl)))))
 (dss_one (ds_raise rfl (takes_of rfl rfl rfl rfl) (pmk_own PySem.F.excBase_ValueError t.xe_BadPlan t.x_BadPlan.g t.x_BadPlan.kp (raises_own t.x_BadPlan.sub t.x_BadPlan.ty) rfl))) dss_nil)
 (dss_cons (ds_if (dt_cmp opD_gtI mono_fC (dr_of (de_callB cd_len mono_len (by rfl) t.m_len bt_len (dr_var 0 (pv 0)))) (dr_of de_int) (by rfl))
 (dss_one (ds_raise rfl (takes_of rfl rfl rfl rfl) (pmk_own PySem.F.excBase_ValueError t.xe_TooLarge t.x_TooLarge.g t.x_TooLarge.kp (raises_own t.x_TooLarge.sub t.x_TooLarge.ty) rfl))) dss_nil)
 (dss_cons (ds_set (i := 2) sc_best_loans.nd rfl (by first | exact .inl rfl | exact .inr rfl) (de_fresh (df_lst (da_cons (de_tup da_nil) da_nil))))
 (dss_cons (ds_for (passes_of rfl) rfl (di_range1 (by rfl) t.m_range (da_cons (de_callB cd_len mono_len (by rfl) t.m_len bt_len (dr_var 0 (pv 0))) da_nil)) (dg_name 3 (pg_name sc_best_loans.nd rfl (by first | exact .inl rfl | exact .inr rfl)))
 (dss_one (ds_set (i := 2) sc_best_loans.nd rfl (by first | exact .inl rfl | exact .inr rfl) (de_fresh (df_op opF_cat mono_cat (dr_var 2 (pv 2)) (dr_of (de_fresh (df_lc (by rfl) sc_best_loans.nd (di_list (de_var 2 (pv 2))) (blk_by (own := [("row", 6)]) (by rfl)) (sl := [6]) (by decide) (fun _ _ _ _ _ => (dg_name 6 (pg_name sc_best_loans.nd rfl (by first | exact .inl rfl | exact .inr rfl)))) (fun _ _ _ _ _ => (dts_one (dt_not (dt_val (de_gen (toD := PyData.bool) (toV := V.bl) (R := rAnyD) (vR := (fun l => .bl (l.any id))) false hTB (fun _ _ _ => .bl _) (k := 19) hrr_any (GxI.gx_any hr) (by rfl) t.m_any hr (by rfl) sc_best_loans.nd t.t_best_loans t.tm_best_loans t.tn_best_loans (by rfl) ⟨by rfl, nocell_by (by rfl), by rfl⟩ (blk_by (own := [("j", 7)]) (by rfl)) (sl := [7]) (by decide) (di_tup (de_var 6 (pv 6))) (fun _ _ _ _ _ _ _ => (dg_name 7 (pg_name sc_best_loans.nd rfl (by first | exact .inl rfl | exact .inr rfl)))) (fun _ _ _ _ _ _ _ hR => dts_nil) (fun _ _ _ _ _ _ _ hR => (de_call (ok_clash t) (mono_clash t w s (hR.mono (by decide))) (hR.mono (by decide)) (by rfl) t.g_clash t.f_clash.kp (bi_clash t) L2.takes0 (dp_sh (de_ix (dr_var 0 (pv 0)) (dr_var 7 (pv 7))) (dp_sh (de_ix (dr_var 0 (pv 0)) (dr_var 3 (pv 3))) dp_nil))))))))) (fun _ _ _ _ _ => (de_op opD_add mono_add (dr_var 6 (pv 6)) (dr_of (de_tup (da_cons (de_var 3 (pv 3)) da_nil)))))))))))))
 (dss_cons (ds_set (i := 4) sc_best_loans.nd rfl (by first | exact .inl rfl | exact .inr rfl) (de_callB (cd_min hr) mono_min (by rfl) t.m_min bt_min (dr_of (de_fresh (df_lc (by rfl) sc_best_loans.nd (di_list (de_var 2 (pv 2))) (blk_by (own := [("row", 6)]) (by rfl)) (sl := [6]) (by decide) (fun _ _ _ _ _ => (dg_name 6 (pg_name sc_best_loans.nd rfl (by first | exact .inl rfl | exact .inr rfl)))) (fun _ _ _ _ _ => dts_nil) (fun _ _ _ _ _ => (de_tup (da_cons (de_neg (de_gen (toD := PyData.int) (toV := V.int) (R := rSumD) (vR := (fun l => .int l.sum)) 0 hTI (fun _ _ _ => .int _) (k := 19) hrr_sum (GxI.gx_sum hr) (by rfl) t.m_sum hr (by rfl) sc_best_loans.nd t.t_best_loans t.tm_best_loans t.tn_best_loans (by rfl) ⟨by rfl, nocell_by (by rfl), by rfl⟩ (blk_by (own := [("k", 3)]) (by rfl)) (sl := [3]) (by decide) (di_tup (de_var 6 (pv 6))) (fun _ _ _ _ _ _ _ => (dg_name 3 (pg_name sc_best_loans.nd rfl (by first | exact .inl rfl | exact .inr rfl)))) (fun _ _ _ _ _ _ _ hR => dts_nil) (fun _ _ _ _ _ _ _ hR => (de_ix (dr_var 1 (pv 1)) (dr_var 3 (pv 3)))))) (da_cons (de_var 6 (pv 6)) da_nil)))))))))
 (dss_one (ds_ret (de_tup (da_cons (de_neg (de_ix (dr_var 4 (pv 4)) (dr_of de_int))) (da_cons (de_ix (dr_var 4 (pv 4)) (dr_of de_int)) da_nil)))))))))))
theorem mono_best_loans (t : Tx a K mg base T) (w : World) (s : Shared) {A : Around} (hr : Room (20 + 1) A) : Mono (c_best_loans a) := mono_cOf (dd_best_loans (P := PySem.Challenge.pw_museum_k14_loans_and_light) (w := w) t A [] s (fun _ => none) (fun _ _ _ => False) (hr.deeper _)).mono
theorem ok_best_loans (t : Tx a K mg base T) : FnOk P w K mg base (L2.CX P w) (20 + 1) a.f_best_loans a.d_best_loans ["loans", "pay"] (spD T K 2 (c_best_loans a)) := fn_okD t.f_best_loans sc_best_loans fun A outer s H E hr => dd_best_loans t A outer s H E hr
def u_borne (a : Ad) : SW :=
 (sSeq (sDk 2)
 (sSeq (sFor (wItL (wVar 0)) (gTupD 4 (gConsD (gNameD 3) (gConsD (gNameD 4) (gConsD (gNameD 5) (gConsD (gNameD 6) gNilD)))))
 (sSeq (sIf (wOr (wNot (wT (wCh (fC fun i j => decide (i ≤ j)) (fC fun i j => decide (i < j)) (wC (.int 0)) (wVar 4) (wVar 5)))) (wNot (wT (wCh (fC fun i j => decide (i ≤ j)) (fC fun i j => decide (i < j)) (wC (.int 0)) (wVar 6) (w1 fLen (wRd 1)))))) (sRaise a.x_BadPlan) sNil)
 (sPut 2 (wVar 3) (w2 fAdd (wDGet 2 (wVar 3) (wC (.int 0))) (w2 fMul (w2 (fI CT fun i j => i - j) (wRd 5) (wRd 4)) (w2 fIx (wRd 1) (wRd 6)))))))
 (sRetP (wSortIt 2))))
def c_borne (a : Ad) : PW := cOfP N_borne (u_borne a)
theorem dd_borne (t : Tx a K mg base T) (A : Around) (outer : List Env) (s : Shared) (H : Hp) (E : XK) (hr : Room 10 (A.deeper (envOfC "borne" (defScope s_borne) s.heap.objs.size a.f_borne (.ref a.c_borne)))) :
  DSs T (cxOf (L2.CX P w) P w K mg base N_borne "borne" (defScope s_borne) a.f_borne (.ref a.c_borne) A outer s H E) (fun cls d _ H => E cls d H) (defBody s_borne) (u_borne a) :=
 (dss_cons (ds_dk (i := 2) sc_borne.nd rfl (by first | exact .inl rfl | exact .inr rfl))
 (dss_cons (ds_for (passes_of rfl) rfl (di_list (de_var 0 (pv 0))) (dg_tup (by rfl) (dgs_cons (dg_name 3 (pg_name sc_borne.nd rfl (by first | exact .inl rfl | exact .inr rfl))) (dgs_cons (dg_name 4 (pg_name sc_borne.nd rfl (by first | exact .inl rfl | exact .inr rfl))) (dgs_cons (dg_name 5 (pg_name sc_borne.nd rfl (by first | exact .inl rfl | exact .inr rfl))) (dgs_cons (dg_name 6 (pg_name sc_borne.nd rfl (by first | exact .inl rfl | exact .inr rfl))) dgs_nil)))))
 (dss_cons (ds_if (dt_bool (dw_or (dt_not (dt_chain opD_leI opD_ltI mono_fC mono_fC de_int (de_var 4 (pv 4)) (de_var 5 (pv 5)))) (dw_or1 (dt_not (dt_chain opD_leI opD_ltI mono_fC mono_fC de_int (de_var 6 (pv 6)) (de_callB cd_len mono_len (by rfl) t.m_len bt_len (dr_var 1 (pv 1))))))))
 (dss_one (ds_raise rfl (takes_of rfl rfl rfl rfl) (pmk_own PySem.F.excBase_ValueError t.xe_BadPlan t.x_BadPlan.g t.x_BadPlan.kp (raises_own t.x_BadPlan.sub t.x_BadPlan.ty) rfl))) dss_nil)
 (dss_one (ds_put (i := 2) hr (pv 2) (de_var 3 (pv 3)) (de_op opD_add mono_add (dr_of (de_dcget (i := 2) hr (pv 2) (de_var 3 (pv 3)) de_int ⟨by rfl, by rfl, by rfl, by rfl⟩)) (dr_of (de_op opD_mul mono_mul (dr_of (de_op opD_sub mono_fI (dr_var 5 (pv 5)) (dr_var 4 (pv 4)))) (dr_of (de_ix (dr_var 1 (pv 1)) (dr_var 6 (pv 6)))))))))))
 (dss_one (ds_retP (by rfl) t.m_tuple (dr_of (de_fresh (df_sortit (i := 2) (by rfl) hr (by rfl) t.m_sorted (pv 2))))))))
theorem mono_borne (t : Tx a K mg base T) (w : World) (s : Shared) {A : Around} (hr : Room (10 + 1) A) : Mono (c_borne a) := mono_cOfP (dd_borne (P := PySem.Challenge.pw_museum_k14_loans_and_light) (w := w) t A [] s (fun _ => none) (fun _ _ _ => False) (hr.deeper _)).mono
theorem okP_borne (t : Tx a K mg base T) : FnOk P w K mg base (L2.CX P w) (10 + 1) a.f_borne a.d_borne ["shows", "lux"] (spDP T K 2 (c_borne a)) := fn_okP t.f_borne sc_borne fun A outer s H E hr => dd_borne t A outer s H E hr
theorem ok_borne (t : Tx a K mg base T) : FnOk P w K mg base (L2.CX P w) (10 + 1) a.f_borne a.d_borne ["shows", "lux"] (spD T K 2 (c_borne a)) := spDP_forget (ps := ["shows", "lux"]) (fun A hA => mono_borne t w {} hA) (okP_borne t)
def u_days_left (a : Ad) : SW :=
 (sSeq (sIf (wNot (wT (wCh (fC fun i j => decide (i ≤ j)) (fC fun i j => decide (i < j)) (wC (.int 0)) (wVar 4) (w1 fLen (wRd 1))))) (sRaise a.x_BadPlan) sNil)
 (sSeq (sSet 5 (wVGet (wDictP (wCall 2 (c_borne a) (wpSh (wVar 0) (wpSh (wVar 1) wpNil)))) (wVar 2) (wC (.int 0))))
 (sSeq (sIf (wT (w2 (fC fun i j => decide (j < i)) (wRd 5) (wRd 3))) (sRaise a.x_NoWay) sNil)
 (sRet (wIf (wT (w2 (fEq false) (w2 fIx (wRd 1) (wRd 4)) (wC (.int 0)))) (wC .none) (w2 (fI CDiv fun i j => i / j) (w2 (fI CT fun i j => i - j) (wRd 3) (wRd 5)) (w2 fIx (wRd 1) (wRd 4))))))))
def c_days_left (a : Ad) : PW := cOf N_days_left (u_days_left a)
theorem dd_days_left (t : Tx a K mg base T) (A : Around) (outer : List Env) (s : Shared) (H : Hp) (E : XK) (hr : Room 14 (A.deeper (envOfC "days_left" (defScope s_days_left) s.heap.objs.size a.f_days_left (.ref a.c_days_left)))) :
  DSs T (cxOf (L2.CX P w) P w K mg base N_days_left "days_left" (defScope s_days_left) a.f_days_left (.ref a.c_days_left) A outer s H E) (fun cls d _ H => E cls d H) (defBody s_days_left) (u_days_left a) :=
 (dss_cons (ds_if (dt_not (dt_chain opD_leI opD_ltI mono_fC mono_fC de_int (de_var 4 (pv 4)) (de_callB cd_len mono_len (by rfl) t.m_len bt_len (dr_var 1 (pv 1)))))
 (dss_one (ds_raise rfl (takes_of rfl rfl rfl rfl) (pmk_own PySem.F.excBase_ValueError t.xe_BadPlan t.x_BadPlan.g t.x_BadPlan.kp (raises_own t.x_BadPlan.sub t.x_BadPlan.ty) rfl))) dss_nil)
 (dss_cons (ds_set (i := 5) sc_days_left.nd rfl (by first | exact .inl rfl | exact .inr rfl) (de_vdget hr (de_dictC (by rfl) (by rfl) t.m_dict (okP_borne t) (mono_borne t w s (hr.mono (by decide))) (hr.mono (by decide)) (by rfl) t.g_borne t.f_borne.kp (bi_borne t) (takes_of rfl rfl rfl rfl) (dp_sh (de_var 0 (pv 0)) (dp_sh (de_var 1 (pv 1)) dp_nil))) (de_var 2 (pv 2)) de_int ⟨by rfl, by rfl, by rfl, by rfl⟩))
 (dss_cons (ds_if (dt_cmp opD_gtI mono_fC (dr_var 5 (pv 5)) (dr_var 3 (pv 3)) (by rfl))
 (dss_one (ds_raise rfl (takes_of rfl rfl rfl rfl) (pmk_own PySem.F.excBase_ValueError t.xe_NoWay t.x_NoWay.g t.x_NoWay.kp (raises_own t.x_NoWay.sub t.x_NoWay.ty) rfl))) dss_nil)
 (dss_one (ds_ret (de_if (dt_cmp (opD_eq hr) mono_eq (dr_of (de_ix (dr_var 1 (pv 1)) (dr_var 4 (pv 4)))) (dr_of de_int) (by rfl)) de_non (de_op opD_fdiv mono_fI (dr_of (de_op opD_sub mono_fI (dr_var 3 (pv 3)) (dr_var 5 (pv 5)))) (dr_of (de_ix (dr_var 1 (pv 1)) (dr_var 4 (pv 4)))))))))))
theorem mono_days_left (t : Tx a K mg base T) (w : World) (s : Shared) {A : Around} (hr : Room (14 + 1) A) : Mono (c_days_left a) := mono_cOf (dd_days_left (P := PySem.Challenge.pw_museum_k14_loans_and_light) (w := w) t A [] s (fun _ => none) (fun _ _ _ => False) (hr.deeper _)).mono
theorem ok_days_left (t : Tx a K mg base T) : FnOk P w K mg base (L2.CX P w) (14 + 1) a.f_days_left a.d_days_left ["shows", "lux", "thing", "most", "room"] (spD T K 5 (c_days_left a)) := fn_okD t.f_days_left sc_days_left fun A outer s H E hr => dd_days_left t A outer s H E hr
def u_by_turns (a : Ad) : SW :=
 (sSeq (sIf (wOr (wT (w2 (fC fun i j => decide (j < i)) (wRd 1) (wRd 0))) (wT (w2 (fC fun i j => decide (i < j)) (wRd 1) (wC (.int 0))))) (sRaise a.x_BadPlan) sNil)
 (sSeq (sOwn 4 (wLc (wRng1 (wCons (wVar 2) wNil)) (gNameD 6) wYes (w1 fTuple (w1 fSorted (wLc (wRng1 (wCons (wVar 1) wNil)) (gNameD 5) wYes (w2 (fI (fun _ j => 0 < j) fun i j => i % j) (w2 fAdd (w2 fMul (wRd 6) (wRd 1)) (wRd 5)) (wRd 0)) [5]))) [6]))
 (sSeq (sIf (wAnd (wT (w2 (fC fun i j => decide (j < i)) (wRd 0) (wC (.int 0)))) (wT (w2 (fC fun i j => decide (j < i)) (wNeg (w2 (fI CDiv fun i j => i / j) (w2 fMul (wNeg (wVar 2)) (wRd 1)) (wRd 0))) (wRd 3)))) (sRaise a.x_NoWay) sNil)
 (sRet (w1 fTuple (wRd 4))))))
def c_by_turns (a : Ad) : PW := cOf N_by_turns (u_by_turns a)
theorem dd_by_turns (t : Tx a K mg base T) (A : Around) (outer : List Env) (s : Shared) (H : Hp) (E : XK) (hr : Room 12 (A.deeper (envOfC "by_turns" (defScope s_by_turns) s.heap.objs.size a.f_by_turns (.ref a.c_by_turns)))) :
  DSs T (cxOf (L2.CX P w) P w K mg base N_by_turns "by_turns" (defScope s_by_turns) a.f_by_turns (.ref a.c_by_turns) A outer s H E) (fun cls d _ H => E cls d H) (defBody s_by_turns) (u_by_turns a) :=
 (dss_cons (ds_if (dt_bool (dw_or (dt_cmp opD_gtI mono_fC (dr_var 1 (pv 1)) (dr_var 0 (pv 0)) (by rfl)) (dw_or1 (dt_cmp opD_ltI mono_fC (dr_var 1 (pv 1)) (dr_of de_int) (by rfl)))))
 (dss_one (ds_raise rfl (takes_of rfl rfl rfl rfl) (pmk_own PySem.F.excBase_ValueError t.xe_BadPlan t.x_BadPlan.g t.x_BadPlan.kp (raises_own t.x_BadPlan.sub t.x_BadPlan.ty) rfl))) dss_nil)
 (dss_cons (ds_ownLc (i := 4) rfl sc_by_turns.nd rfl rfl rfl (di_range1 (by rfl) t.m_range (da_cons (de_var 2 (pv 2)) da_nil)) (blk_by (own := [("day", 6)]) (by rfl)) (sl := [6]) (by decide) (fun _ _ _ _ _ => (dg_name 6 (pg_name sc_by_turns.nd rfl (by first | exact .inl rfl | exact .inr rfl)))) (fun _ _ _ _ _ => dts_nil) (fun _ _ _ _ _ => (de_callTy cd_tuple mono_tuple (by rfl) t.m_tuple bt_tuple (dr_of (de_fresh (df_callB (cf_sorted hr) mono_sorted (by rfl) t.m_sorted bt_sorted (dr_of (de_fresh (df_lc (by rfl) sc_by_turns.nd (di_range1 (by rfl) t.m_range (da_cons (de_var 1 (pv 1)) da_nil)) (blk_by (own := [("k", 5)]) (by rfl)) (sl := [5]) (by decide) (fun _ _ _ _ _ => (dg_name 5 (pg_name sc_by_turns.nd rfl (by first | exact .inl rfl | exact .inr rfl)))) (fun _ _ _ _ _ => dts_nil) (fun _ _ _ _ _ => (de_op opD_mod mono_fI (dr_of (de_op opD_add mono_add (dr_of (de_op opD_mul mono_mul (dr_var 6 (pv 6)) (dr_var 1 (pv 1)))) (dr_var 5 (pv 5)))) (dr_var 0 (pv 0)))))))))))))
 (dss_cons (ds_if (dt_bool (dw_and (dt_cmp opD_gtI mono_fC (dr_var 0 (pv 0)) (dr_of de_int) (by rfl)) (dw_and1 (dt_cmp opD_gtI mono_fC (dr_of (de_neg (de_op opD_fdiv mono_fI (dr_of (de_op opD_mul mono_mul (dr_of (de_neg (de_var 2 (pv 2)))) (dr_var 1 (pv 1)))) (dr_var 0 (pv 0))))) (dr_var 3 (pv 3)) (by rfl)))))
 (dss_one (ds_raise rfl (takes_of rfl rfl rfl rfl) (pmk_own PySem.F.excBase_ValueError t.xe_NoWay t.x_NoWay.g t.x_NoWay.kp (raises_own t.x_NoWay.sub t.x_NoWay.ty) rfl))) dss_nil)
 (dss_one (ds_ret (de_callTy cd_tuple mono_tuple (by rfl) t.m_tuple bt_tuple (dr_var 4 (pv 4))))))))
theorem mono_by_turns (t : Tx a K mg base T) (w : World) (s : Shared) {A : Around} (hr : Room (12 + 1) A) : Mono (c_by_turns a) := mono_cOf (dd_by_turns (P := PySem.Challenge.pw_museum_k14_loans_and_light) (w := w) t A [] s (fun _ => none) (fun _ _ _ => False) (hr.deeper _)).mono
theorem ok_by_turns (t : Tx a K mg base T) : FnOk P w K mg base (L2.CX P w) (12 + 1) a.f_by_turns a.d_by_turns ["things", "places", "days", "most"] (spD T K 4 (c_by_turns a)) := fn_okD t.f_by_turns sc_by_turns fun A outer s H E hr => dd_by_turns t A outer s H E hr
def u__law_dice (a : Ad) : SW :=
 (sSeq (sIf (wT (wCh (fC fun i j => decide (i < j)) (fC fun i j => decide (i < j)) (w2 (fI CT fun i j => i - j) (wC (.int 0)) (wC (.int 10))) (wVar 0) (wC (.int 10)))) (sRet (wLst (wCons (w1 fAbs (wRd 0)) (wCons (wC (.int 0)) (wCons (wC (.int 2)) wNil))))) sNil)
 (sRet (wLst (wCons (wVar 0) (wCons (w2 fAdd (wC (.int 1)) (w2 (fI (fun _ j => 0 < j) fun i j => i % j) (w1 fInt (wRd 0)) (wC (.int 1009)))) (wCons (w1 fInt (w2 (fC fun i j => decide (j ≤ i)) (wRd 0) (w2 (fI CPow fun i j => i ^ j.toNat) (wC (.int 10)) (wC (.int 18))))) wNil))))))
def c__law_dice (a : Ad) : PW := cOf N__law_dice (u__law_dice a)
theorem dd__law_dice (t : Tx a K mg base T) (A : Around) (outer : List Env) (s : Shared) (H : Hp) (E : XK) (hr : Room 10 (A.deeper (envOfC "_law_dice" (defScope s__law_dice) s.heap.objs.size a.f__law_dice (.ref a.c__law_dice)))) :
  DSs T (cxOf (L2.CX P w) P w K mg base N__law_dice "_law_dice" (defScope s__law_dice) a.f__law_dice (.ref a.c__law_dice) A outer s H E) (fun cls d _ H => E cls d H) (defBody s__law_dice) (u__law_dice a) :=
 (dss_cons (ds_if (dt_chain opD_ltI opD_ltI mono_fC mono_fC (de_op opD_sub mono_fI (dr_of de_int) (dr_of de_int)) (de_var 0 (pv 0)) de_int)
 (dss_one (ds_ret (de_fresh (df_lst (da_cons (de_callB cd_abs mono_abs (by rfl) t.m_abs bt_abs (dr_var 0 (pv 0))) (da_cons de_int (da_cons de_int da_nil))))))) dss_nil)
 (dss_one (ds_ret (de_fresh (df_lst (da_cons (de_var 0 (pv 0)) (da_cons (de_op opD_add mono_add (dr_of de_int) (dr_of (de_op opD_mod mono_fI (dr_of (de_callTy cd_int mono_int (by rfl) t.m_int bt_int (dr_var 0 (pv 0)))) (dr_of de_int)))) (da_cons (de_callTy cd_int mono_int (by rfl) t.m_int bt_int (dr_of (de_cmp opD_geI mono_fC (dr_var 0 (pv 0)) (dr_of (de_op opD_pow mono_fI (dr_of de_int) (dr_of de_int))) (by rfl)))) da_nil))))))))
theorem mono__law_dice (t : Tx a K mg base T) (w : World) (s : Shared) {A : Around} (hr : Room (10 + 1) A) : Mono (c__law_dice a) := mono_cOf (dd__law_dice (P := PySem.Challenge.pw_museum_k14_loans_and_light) (w := w) t A [] s (fun _ => none) (fun _ _ _ => False) (hr.deeper _)).mono
theorem ok__law_dice (t : Tx a K mg base T) : FnOk P w K mg base (L2.CX P w) (10 + 1) a.f__law_dice a.d__law_dice ["cell"] (spD T K 1 (c__law_dice a)) := fn_okD t.f__law_dice sc__law_dice fun A outer s H E hr => dd__law_dice t A outer s H E hr
def u__law_roll (a : Ad) : SW :=
 (sSeq (sIf (wOr (wT (w2 (fEq false) (wDix 0 2) (wC (.int 2)))) (wAnd (wT (w2 (fEq false) (wDix 0 2) (wC (.int 1)))) (wT (w2 (fC fun i j => decide (j < i)) (wDix 0 0) (wC (.int 0)))))) (sSeq (sSet 2 (w2 (fI (fun _ j => 0 < j) fun i j => i % j) (w1 fInt (wDix 0 0)) (wRd 1)))
 (sSeq (sDst 0 0 (w2 (fI CDiv fun i j => i / j) (wDix 0 0) (wRd 1)))
 (sRet (wVar 2)))) sNil)
 (sSeq (sDst 0 2 (wC (.int 0)))
 (sSeq (sDst 0 0 (w2 (fI (fun _ j => 0 < j) fun i j => i % j) (w1 fInt (w2 fAdd (w2 fAdd (w2 fMul (wDix 0 0) (wC (.int 48271))) (w2 fMul (wDix 0 1) (wC (.int 69621)))) (wC (.int 11)))) (wC (.int 2147483647))))
 (sSeq (sDst 0 1 (w2 fAdd (wDix 0 1) (wC (.int 1))))
 (sRet (w2 (fI (fun _ j => 0 < j) fun i j => i % j) (w1 fInt (w2 fAdd (w2 (fI CDiv fun i j => i / j) (wDix 0 0) (wC (.int 7))) (wDix 0 0))) (wRd 1)))))))
def c__law_roll (a : Ad) : PW := cOf N__law_roll (u__law_roll a)
theorem dd__law_roll (t : Tx a K mg base T) (A : Around) (outer : List Env) (s : Shared) (H : Hp) (E : XK) (hr : Room 10 (A.deeper (envOfC "_law_roll" (defScope s__law_roll) s.heap.objs.size a.f__law_roll (.ref a.c__law_roll)))) :
  DSs T (cxOf (L2.CX P w) P w K mg base N__law_roll "_law_roll" (defScope s__law_roll) a.f__law_roll (.ref a.c__law_roll) A outer s H E) (fun cls d _ H => E cls d H) (defBody s__law_roll) (u__law_roll a) :=
 (dss_cons (ds_if (dt_bool (dw_or (dt_cmp (opD_eq hr) mono_eq (dr_of (de_dix (i := 0) (k := 2) (pv 0))) (dr_of de_int) (by rfl)) (dw_or1 (dt_bool (dw_and (dt_cmp (opD_eq hr) mono_eq (dr_of (de_dix (i := 0) (k := 2) (pv 0))) (dr_of de_int) (by rfl)) (dw_and1 (dt_cmp opD_gtI mono_fC (dr_of (de_dix (i := 0) (k := 0) (pv 0))) (dr_of de_int) (by rfl))))))))
 (dss_cons (ds_set (i := 2) sc__law_roll.nd rfl (by first | exact .inl rfl | exact .inr rfl) (de_op opD_mod mono_fI (dr_of (de_callTy cd_int mono_int (by rfl) t.m_int bt_int (dr_of (de_dix (i := 0) (k := 0) (pv 0))))) (dr_var 1 (pv 1))))
 (dss_cons (ds_dst (i := 0) (k := 0) (pv 0) (de_op opD_fdiv mono_fI (dr_of (de_dix (i := 0) (k := 0) (pv 0))) (dr_var 1 (pv 1))))
 (dss_one (ds_ret (de_var 2 (pv 2)))))) dss_nil)
 (dss_cons (ds_dst (i := 0) (k := 2) (pv 0) de_int)
 (dss_cons (ds_dst (i := 0) (k := 0) (pv 0) (de_op opD_mod mono_fI (dr_of (de_callTy cd_int mono_int (by rfl) t.m_int bt_int (dr_of (de_op opD_add mono_add (dr_of (de_op opD_add mono_add (dr_of (de_op opD_mul mono_mul (dr_of (de_dix (i := 0) (k := 0) (pv 0))) (dr_of de_int))) (dr_of (de_op opD_mul mono_mul (dr_of (de_dix (i := 0) (k := 1) (pv 0))) (dr_of de_int))))) (dr_of de_int))))) (dr_of de_int)))
 (dss_cons (ds_dst (i := 0) (k := 1) (pv 0) (de_op opD_add mono_add (dr_of (de_dix (i := 0) (k := 1) (pv 0))) (dr_of de_int)))
 (dss_one (ds_ret (de_op opD_mod mono_fI (dr_of (de_callTy cd_int mono_int (by rfl) t.m_int bt_int (dr_of (de_op opD_add mono_add (dr_of (de_op opD_fdiv mono_fI (dr_of (de_dix (i := 0) (k := 0) (pv 0))) (dr_of de_int))) (dr_of (de_dix (i := 0) (k := 0) (pv 0))))))) (dr_var 1 (pv 1)))))))))
theorem mono__law_roll (t : Tx a K mg base T) (w : World) (s : Shared) {A : Around} (hr : Room (10 + 1) A) : Mono (c__law_roll a) := mono_cOf (dd__law_roll (P := PySem.Challenge.pw_museum_k14_loans_and_light) (w := w) t A [] s (fun _ => none) (fun _ _ _ => False) (hr.deeper _)).mono
theorem ok__law_roll (t : Tx a K mg base T) : FnOk P w K mg base (L2.CX P w) (10 + 1) a.f__law_roll a.d__law_roll ["dice", "many"] (spD T K 2 (c__law_roll a)) := fn_okD t.f__law_roll sc__law_roll fun A outer s H E hr => dd__law_roll t A outer s H E hr
def u__law_rounds (a : Ad) : SW :=
 (sSeq (sSet 2 (wScr 0 (wSo (wVar 1))))
 (sSeq (sIf (wT (w2 (fEq false) (wRd 2) (wLst wNil))) (sSet 2 (wLst (wCons (wC (.int 0)) wNil))) sNil)
 (sRet (wLc (wItL (wVar 2)) (gNameD 3) wYes (wCall 1 (c__law_dice a) (wpSh (wVar 3) wpNil)) [3]))))
def c__law_rounds (a : Ad) : PW := cOf N__law_rounds (u__law_rounds a)
theorem dd__law_rounds (t : Tx a K mg base T) (A : Around) (outer : List Env) (s : Shared) (H : Hp) (E : XK) (hr : Room 12 (A.deeper (envOfC "_law_rounds" (defScope s__law_rounds) s.heap.objs.size a.f__law_rounds (.ref a.c__law_rounds)))) :
  DSs T (cxOf (L2.CX P w) P w K mg base N__law_rounds "_law_rounds" (defScope s__law_rounds) a.f__law_rounds (.ref a.c__law_rounds) A outer s H E) (fun cls d _ H => E cls d H) (defBody s__law_rounds) (u__law_rounds a) :=
 (dss_cons (ds_set (i := 2) sc__law_rounds.nd rfl (by first | exact .inl rfl | exact .inr rfl) (de_fresh (df_scr (pv 0) (do_some (de_var 1 (pv 1))))))
 (dss_cons (ds_if (dt_cmp (opD_eq hr) mono_eq (dr_var 2 (pv 2)) (dr_of (de_fresh (df_lst da_nil))) (by rfl))
 (dss_one (ds_set (i := 2) sc__law_rounds.nd rfl (by first | exact .inl rfl | exact .inr rfl) (de_fresh (df_lst (da_cons de_int da_nil))))) dss_nil)
 (dss_one (ds_ret (de_fresh (df_lc (by rfl) sc__law_rounds.nd (di_list (de_var 2 (pv 2))) (blk_by (own := [("cell", 3)]) (by rfl)) (sl := [3]) (by decide) (fun _ _ _ _ _ => (dg_name 3 (pg_name sc__law_rounds.nd rfl (by first | exact .inl rfl | exact .inr rfl)))) (fun _ _ _ _ _ => dts_nil) (fun _ _ _ _ _ => (de_call (ok__law_dice t) (mono__law_dice t w s (hr.mono (by decide))) (hr.mono (by decide)) (by rfl) t.g__law_dice t.f__law_dice.kp (bi__law_dice t) L2.takes0 (dp_sh (de_var 3 (pv 3)) dp_nil)))))))))
theorem mono__law_rounds (t : Tx a K mg base T) (w : World) (s : Shared) {A : Around} (hr : Room (12 + 1) A) : Mono (c__law_rounds a) := mono_cOf (dd__law_rounds (P := PySem.Challenge.pw_museum_k14_loans_and_light) (w := w) t A [] s (fun _ => none) (fun _ _ _ => False) (hr.deeper _)).mono
theorem ok__law_rounds (t : Tx a K mg base T) : FnOk P w K mg base (L2.CX P w) (12 + 1) a.f__law_rounds a.d__law_rounds ["script", "most"] (spD T K 2 (c__law_rounds a)) := fn_okD t.f__law_rounds sc__law_rounds fun A outer s H E hr => dd__law_rounds t A outer s H E hr
def u__law_light (a : Ad) : SW :=
 (sSeq (sParN [1, 2] (wbOl (wLst wNil) (wpSh (wLst (wCons (wCall 2 (c__law_roll a) (wpDc 0 (wpSh (wC (.int 4)) wpNil))) (wCons (wCall 2 (c__law_roll a) (wpDc 0 (wpSh (wC (.int 4)) wpNil))) wNil))) wpNil)))
 (sSeq (sFor (wRng1 (wCons (wCall 2 (c__law_roll a) (wpDc 0 (wpSh (wC (.int 6)) wpNil))) wNil)) (gNameD 3)
 (sSeq (sSet 4 (wCall 2 (c__law_roll a) (wpDc 0 (wpSh (wC (.int 9)) wpNil))))
 (sApp 1 (wTup (wCons (w2 fIx (wC (.str "xy")) (wCall 2 (c__law_roll a) (wpDc 0 (wpSh (wC (.int 2)) wpNil)))) (wCons (wVar 4) (wCons (w2 fAdd (w2 fAdd (wRd 4) (wC (.int 1))) (wCall 2 (c__law_roll a) (wpDc 0 (wpSh (wC (.int 5)) wpNil)))) (wCons (wCall 2 (c__law_roll a) (wpDc 0 (wpSh (wC (.int 2)) wpNil))) wNil))))))))
 (sSeq (sSet 5 (wLst wNil))
 (sSeq (sFor (wItS (wC (.str "xy"))) (gNameD 6)
 (sFrz 1 (sSeq (sSet 7 (w1 fSum (wLc (wItL (wVar 1)) (gTupD 4 (gConsD (gNameD 17) (gConsD (gNameD 4) (gConsD (gNameD 18) (gConsD (gNameD 9) gNilD))))) (wT (w2 (fEq false) (wRd 17) (wRd 6))) (w2 fMul (w2 (fI CT fun i j => i - j) (wRd 18) (wRd 4)) (w2 fIx (wRd 2) (wRd 9))) [17, 4, 18, 9])))
 (sFrz 1 (sSet 5 (w2 fCat (wRd 5) (w2 fRep (wLst (wCons (wTup (wCons (wVar 6) (wCons (wVar 7) wNil))) wNil)) (w1 fInt (w2 (fEq true) (wLc (wItL (wVar 1)) (gNameD 19) (wT (w2 (fEq false) (w2 fIx (wRd 19) (wC (.int 0))) (wRd 6))) (wC (.int 1)) [19]) (wLst wNil))))))))))
 (sFrz 1 (sSeq (sIf (wT (w2 (fEq true) (w1 fList (wCall 2 (c_borne a) (wpSh (wVar 1) (wpSh (wVar 2) wpNil)))) (wRd 5))) (sRet (wC (.bool false))) sNil)
 (sSeq (sParN [8, 9, 10] (wpSh (wCall 2 (c__law_roll a) (wpDc 0 (wpSh (wC (.int 60)) wpNil))) (wpSh (wCall 2 (c__law_roll a) (wpDc 0 (wpSh (wC (.int 2)) wpNil))) (wpSh (wVGet (wDictP (wOnlyL (wRd 5))) (wC (.str "x")) (wC (.int 0))) wpNil))))
 (sFrz 1 (sSeq (sSet 11 (wTold (hsT a) (wCall 5 (c_days_left a) (wpSh (wVar 1) (wpSh (wVar 2) (wpSh (wC (.str "x")) (wpSh (wVar 8) (wpSh (wVar 9) wpNil))))))))
 (sSeq (sIf (wOr (wT (w2 (fEq true) (w2 (fEq false) (wRd 11) (wC (.str "no way"))) (w2 (fC fun i j => decide (j < i)) (wRd 10) (wRd 8)))) (wT (w2 (fEq true) (w2 fIsN (wRd 11) (wC .none)) (wAndV (w2 (fC fun i j => decide (i ≤ j)) (wRd 10) (wRd 8)) (w2 (fEq false) (w2 fIx (wRd 2) (wRd 9)) (wC (.int 0))))))) (sRet (wC (.bool false))) sNil)
 (sSeq (sIf (wAnd (wT (w2 (fIn true) (wRd 11) (wLst (wCons (wC (.str "no way")) (wCons (wC .none) wNil))))) (wNot (wT (wCh (fC fun i j => decide (i ≤ j)) (fC fun i j => decide (i < j)) (w2 fAdd (wRd 10) (w2 fMul (wRd 11) (w2 fIx (wRd 2) (wRd 9)))) (wVar 8) (w2 fAdd (wRd 10) (w2 fMul (w2 fAdd (wRd 11) (wC (.int 1))) (w2 fIx (wRd 2) (wRd 9)))))))) (sRet (wC (.bool false))) sNil)
 (sSeq (sParN [12, 13] (wpSh (w2 fAdd (wC (.int 1)) (wCall 2 (c__law_roll a) (wpDc 0 (wpSh (wC (.int 5)) wpNil)))) (wpSh (wCall 2 (c__law_roll a) (wpDc 0 (wpSh (wC (.int 9)) wpNil))) wpNil)))
 (sSeq (sSet 14 (wCall 2 (c__law_roll a) (wpDc 0 (wpSh (w2 fAdd (wRd 12) (wC (.int 1))) wpNil))))
 (sSeq (sSet 15 (wCall 4 (c_by_turns a) (wpSh (wVar 12) (wpSh (wVar 14) (wpSh (wVar 13) (wpSh (wC (.int 99)) wpNil))))))
 (sSeq (sSet 16 (wLc (wRng1 (wCons (wVar 12) wNil)) (gNameD 17) wYes (w1 fLen (wLc (wItT (wVar 15)) (gNameD 20) (wT (w2 (fIn false) (wRd 17) (wRd 20))) (wC (.int 1)) [20])) [17]))
 (sSeq (sIf (wOr (wT (w2 (fEq true) (w1 fLen (wRd 15)) (wRd 13))) (wT (w2 (fEq true) (wLc (wItT (wVar 15)) (gNameD 20) (wOr (wT (w2 (fEq true) (w1 fLen (wRd 20)) (wRd 14))) (wT (w2 (fEq true) (w1 fList (wRd 20)) (w1 fSortedT (wRd 20))))) (wVar 20) [20]) (wLst wNil)))) (sRet (wC (.bool false))) sNil)
 (sSeq (sIf (wOr (wT (w2 (fEq true) (w1 fSum (wRd 16)) (w2 fMul (wRd 13) (wRd 14)))) (wT (w2 (fC fun i j => decide (j < i)) (w2 (fI CT fun i j => i - j) (w1 fMax (wRd 16)) (w1 fMin (wRd 16))) (wC (.int 1))))) (sRet (wC (.bool false))) sNil)
 (sSeq (sIf (wAnd (wT (w2 (fC fun i j => decide (j < i)) (w1 fMax (wRd 16)) (wC (.int 0)))) (wT (w2 (fEq true) (wTold (hsT a) (wCall 4 (c_by_turns a) (wpSh (wVar 12) (wpSh (wVar 14) (wpSh (wVar 13) (wpSh (w2 (fI CT fun i j => i - j) (w1 fMax (wRd 16)) (wC (.int 1))) wpNil)))))) (wC (.str "no way"))))) (sRet (wC (.bool false))) sNil)
 (sSeq (sIf (wT (w2 (fEq true) (wCall 4 (c_by_turns a) (wpSh (wVar 12) (wpSh (wVar 14) (wpSh (wVar 13) (wpSh (w1 fMax (wRd 16)) wpNil))))) (wRd 15))) (sRet (wC (.bool false))) sNil)
 (sRet (wC (.bool true))))))))))))))))))))))
def c__law_light (a : Ad) : PW := cOf N__law_light (u__law_light a)
theorem dd__law_light (t : Tx a K mg base T) (A : Around) (outer : List Env) (s : Shared) (H : Hp) (E : XK) (hr : Room 30 (A.deeper (envOfC "_law_light" (defScope s__law_light) s.heap.objs.size a.f__law_light (.ref a.c__law_light)))) :
  DSs T (cxOf (L2.CX P w) P w K mg base N__law_light "_law_light" (defScope s__law_light) a.f__law_light (.ref a.c__law_light) A outer s H E) (fun cls d _ H => E cls d H) (defBody s__law_light) (u__law_light a) :=
 (dss_cons (ds_parT (is := [1, 2]) (n := 2) rfl (db_ol (df_lst da_nil) (db_sh (de_fresh (df_lst (da_cons (de_call (ok__law_roll t) (mono__law_roll t w s (hr.mono (by decide))) (hr.mono (by decide)) (by rfl) t.g__law_roll t.f__law_roll.kp (bi__law_roll t) (takes_of rfl rfl rfl rfl) (dp_dc (pv 0) (dp_sh de_int dp_nil))) (da_cons (de_call (ok__law_roll t) (mono__law_roll t w s (hr.mono (by decide))) (hr.mono (by decide)) (by rfl) t.g__law_roll t.f__law_roll.kp (bi__law_roll t) (takes_of rfl rfl rfl rfl) (dp_dc (pv 0) (dp_sh de_int dp_nil))) da_nil)))) db_nil)) (pgs_cons (pg_name (i := 1) sc__law_light.nd rfl (by first | exact .inl rfl | exact .inr rfl)) (pgs_cons (pg_name (i := 2) sc__law_light.nd rfl (by first | exact .inl rfl | exact .inr rfl)) pgs_nil)) (.cons (.cons .nil)))
 (dss_cons (ds_for (passes_of rfl) rfl (di_range1 (by rfl) t.m_range (da_cons (de_call (ok__law_roll t) (mono__law_roll t w s (hr.mono (by decide))) (hr.mono (by decide)) (by rfl) t.g__law_roll t.f__law_roll.kp (bi__law_roll t) (takes_of rfl rfl rfl rfl) (dp_dc (pv 0) (dp_sh de_int dp_nil))) da_nil)) (dg_name 3 (pg_name sc__law_light.nd rfl (by first | exact .inl rfl | exact .inr rfl)))
 (dss_cons (ds_set (i := 4) sc__law_light.nd rfl (by first | exact .inl rfl | exact .inr rfl) (de_call (ok__law_roll t) (mono__law_roll t w s (hr.mono (by decide))) (hr.mono (by decide)) (by rfl) t.g__law_roll t.f__law_roll.kp (bi__law_roll t) (takes_of rfl rfl rfl rfl) (dp_dc (pv 0) (dp_sh de_int dp_nil))))
 (dss_one (ds_app (i := 1) (pv 1) (de_tup (da_cons (de_ix (dr_of de_str) (dr_of (de_call (ok__law_roll t) (mono__law_roll t w s (hr.mono (by decide))) (hr.mono (by decide)) (by rfl) t.g__law_roll t.f__law_roll.kp (bi__law_roll t) (takes_of rfl rfl rfl rfl) (dp_dc (pv 0) (dp_sh de_int dp_nil))))) (da_cons (de_var 4 (pv 4)) (da_cons (de_op opD_add mono_add (dr_of (de_op opD_add mono_add (dr_var 4 (pv 4)) (dr_of de_int))) (dr_of (de_call (ok__law_roll t) (mono__law_roll t w s (hr.mono (by decide))) (hr.mono (by decide)) (by rfl) t.g__law_roll t.f__law_roll.kp (bi__law_roll t) (takes_of rfl rfl rfl rfl) (dp_dc (pv 0) (dp_sh de_int dp_nil))))) (da_cons (de_call (ok__law_roll t) (mono__law_roll t w s (hr.mono (by decide))) (hr.mono (by decide)) (by rfl) t.g__law_roll t.f__law_roll.kp (bi__law_roll t) (takes_of rfl rfl rfl rfl) (dp_dc (pv 0) (dp_sh de_int dp_nil))) da_nil)))))))))
 (dss_cons (ds_set (i := 5) sc__law_light.nd rfl (by first | exact .inl rfl | exact .inr rfl) (de_fresh (df_lst da_nil)))
 (dss_cons (ds_for (passes_of rfl) rfl (di_str de_str) (dg_name 6 (pg_name sc__law_light.nd rfl (by first | exact .inl rfl | exact .inr rfl)))
 (dss_frz 1 (dss_cons (ds_set (i := 7) sc__law_light.nd rfl (by first | exact .inl rfl | exact .inr rfl) (de_callB (cd_sum hr) mono_sum (by rfl) t.m_sum bt_sum (dr_of (de_fresh (df_lc (by rfl) sc__law_light.nd (di_list (de_var 1 (pv 1))) (blk_by (own := [("one", 17), ("first", 4), ("last", 18), ("room", 9)]) (by rfl)) (sl := ([17] ++ ([4] ++ ([18] ++ ([9] ++ []))))) (by decide) (fun _ _ _ _ _ => (dg_tup (by rfl) (dgs_cons (dg_name 17 (pg_name sc__law_light.nd rfl (by first | exact .inl rfl | exact .inr rfl))) (dgs_cons (dg_name 4 (pg_name sc__law_light.nd rfl (by first | exact .inl rfl | exact .inr rfl))) (dgs_cons (dg_name 18 (pg_name sc__law_light.nd rfl (by first | exact .inl rfl | exact .inr rfl))) (dgs_cons (dg_name 9 (pg_name sc__law_light.nd rfl (by first | exact .inl rfl | exact .inr rfl))) dgs_nil)))))) (fun _ _ _ _ _ => (dts_one (dt_cmp (opD_eq hr) mono_eq (dr_var 17 (pv 17)) (dr_var 6 (pv 6)) (by rfl)))) (fun _ _ _ _ _ => (de_op opD_mul mono_mul (dr_of (de_op opD_sub mono_fI (dr_var 18 (pv 18)) (dr_var 4 (pv 4)))) (dr_of (de_ix (dr_var 2 (pv 2)) (dr_var 9 (pv 9)))))))))))
 (dss_frz 1 (dss_one (ds_set (i := 5) sc__law_light.nd rfl (by first | exact .inl rfl | exact .inr rfl) (de_fresh (df_op opF_cat mono_cat (dr_var 5 (pv 5)) (dr_of (de_fresh (df_op opF_rep mono_rep (dr_of (de_fresh (df_lst (da_cons (de_tup (da_cons (de_var 6 (pv 6)) (da_cons (de_var 7 (pv 7)) da_nil))) da_nil)))) (dr_of (de_callTy cd_int mono_int (by rfl) t.m_int bt_int (dr_of (de_cmp (opD_ne hr) mono_eq (dr_of (de_fresh (df_lc (by rfl) sc__law_light.nd (di_list (de_var 1 (pv 1))) (blk_by (own := [("show", 19)]) (by rfl)) (sl := [19]) (by decide) (fun _ _ _ _ _ => (dg_name 19 (pg_name sc__law_light.nd rfl (by first | exact .inl rfl | exact .inr rfl)))) (fun _ _ _ _ _ => (dts_one (dt_cmp (opD_eq hr) mono_eq (dr_of (de_ix (dr_var 19 (pv 19)) (dr_of de_int))) (dr_var 6 (pv 6)) (by rfl)))) (fun _ _ _ _ _ => de_int)))) (dr_of (de_fresh (df_lst da_nil))) (by rfl))))))))))))))))
 (dss_frz 1 (dss_cons (ds_if (dt_cmp (opD_ne hr) mono_eq (dr_of (de_fresh (df_callTy cf_list mono_list (by rfl) t.m_list bt_list (dr_of (de_call (ok_borne t) (mono_borne t w s (hr.mono (by decide))) (hr.mono (by decide)) (by rfl) t.g_borne t.f_borne.kp (bi_borne t) (takes_of rfl rfl rfl rfl) (dp_sh (de_var 1 (pv 1)) (dp_sh (de_var 2 (pv 2)) dp_nil))))))) (dr_var 5 (pv 5)) (by rfl))
 (dss_one (ds_ret de_bl)) dss_nil)
 (dss_cons (ds_parT (is := [8, 9, 10]) (n := 3) rfl (db_sh (de_call (ok__law_roll t) (mono__law_roll t w s (hr.mono (by decide))) (hr.mono (by decide)) (by rfl) t.g__law_roll t.f__law_roll.kp (bi__law_roll t) (takes_of rfl rfl rfl rfl) (dp_dc (pv 0) (dp_sh de_int dp_nil))) (db_sh (de_call (ok__law_roll t) (mono__law_roll t w s (hr.mono (by decide))) (hr.mono (by decide)) (by rfl) t.g__law_roll t.f__law_roll.kp (bi__law_roll t) (takes_of rfl rfl rfl rfl) (dp_dc (pv 0) (dp_sh de_int dp_nil))) (db_sh (de_vdget hr (de_dictL (by rfl) (by rfl) t.m_dict (dr_var 5 (pv 5))) de_str de_int ⟨by rfl, by rfl, by rfl, by rfl⟩) db_nil))) (pgs_cons (pg_name (i := 8) sc__law_light.nd rfl (by first | exact .inl rfl | exact .inr rfl)) (pgs_cons (pg_name (i := 9) sc__law_light.nd rfl (by first | exact .inl rfl | exact .inr rfl)) (pgs_cons (pg_name (i := 10) sc__law_light.nd rfl (by first | exact .inl rfl | exact .inr rfl)) pgs_nil))) (.cons (.cons (.cons .nil))))
 (dss_frz 1 (dss_cons (ds_set (i := 11) sc__law_light.nd rfl (by first | exact .inl rfl | exact .inr rfl) (de_told (hs := hsT a) (k := 28) (Ng := N__law_told) (by rfl) t.g__law_told t.f__law_told (bi__law_told t) sc__law_told (by rfl) (.inl (by rfl)) (told_gives3 t.apart (by rfl) t.x_NoWay.g (by decide) (by rfl) t.x_BadPlan.g (by decide) (by rfl) t.x_BadPaper.g (by decide) (fun _ => by rfl)) t.l__law_light (by rfl) t.lm__law_light t.lu__law_light t.ln__law_light hr (lamS_by (by rfl)) (by rfl) (fun _ _ _ _ _ => by rfl) (fun A outer s H E f c hrL => (de_call (ok_days_left t) (mono_days_left t w s (hrL.mono (by decide))) (hrL.mono (by decide)) (by rfl) t.g_days_left t.f_days_left.kp (bi_days_left t) (takes_of rfl rfl rfl rfl) (dp_sh (de_var 1 (pv 1)) (dp_sh (de_var 2 (pv 2)) (dp_sh de_str (dp_sh (de_var 8 (pv 8)) (dp_sh (de_var 9 (pv 9)) dp_nil)))))))))
 (dss_cons (ds_if (dt_bool (dw_or (dt_cmp (opD_ne hr) mono_eq (dr_of (de_cmp (opD_eq hr) mono_eq (dr_var 11 (pv 11)) (dr_of de_str) (by rfl))) (dr_of (de_cmp opD_gtI mono_fC (dr_var 10 (pv 10)) (dr_var 8 (pv 8)) (by rfl))) (by rfl)) (dw_or1 (dt_cmp (opD_ne hr) mono_eq (dr_of (de_cmp opD_isN mono_isN (dr_var 11 (pv 11)) (dr_of de_non) (by rfl))) (dr_of (de_and (de_cmp opD_leI mono_fC (dr_var 10 (pv 10)) (dr_var 8 (pv 8)) (by rfl)) (de_one (de_cmp (opD_eq hr) mono_eq (dr_of (de_ix (dr_var 2 (pv 2)) (dr_var 9 (pv 9)))) (dr_of de_int) (by rfl))))) (by rfl)))))
 (dss_one (ds_ret de_bl)) dss_nil)
 (dss_cons (ds_if (dt_bool (dw_and (dt_cmp (opD_notIn hr) mono_in (dr_var 11 (pv 11)) (dr_of (de_fresh (df_lst (da_cons de_str (da_cons de_non da_nil))))) (by rfl)) (dw_and1 (dt_not (dt_chain opD_leI opD_ltI mono_fC mono_fC (de_op opD_add mono_add (dr_var 10 (pv 10)) (dr_of (de_op opD_mul mono_mul (dr_var 11 (pv 11)) (dr_of (de_ix (dr_var 2 (pv 2)) (dr_var 9 (pv 9))))))) (de_var 8 (pv 8)) (de_op opD_add mono_add (dr_var 10 (pv 10)) (dr_of (de_op opD_mul mono_mul (dr_of (de_op opD_add mono_add (dr_var 11 (pv 11)) (dr_of de_int))) (dr_of (de_ix (dr_var 2 (pv 2)) (dr_var 9 (pv 9))))))))))))
 (dss_one (ds_ret de_bl)) dss_nil)
 (dss_cons (ds_parT (is := [12, 13]) (n := 2) rfl (db_sh (de_op opD_add mono_add (dr_of de_int) (dr_of (de_call (ok__law_roll t) (mono__law_roll t w s (hr.mono (by decide))) (hr.mono (by decide)) (by rfl) t.g__law_roll t.f__law_roll.kp (bi__law_roll t) (takes_of rfl rfl rfl rfl) (dp_dc (pv 0) (dp_sh de_int dp_nil))))) (db_sh (de_call (ok__law_roll t) (mono__law_roll t w s (hr.mono (by decide))) (hr.mono (by decide)) (by rfl) t.g__law_roll t.f__law_roll.kp (bi__law_roll t) (takes_of rfl rfl rfl rfl) (dp_dc (pv 0) (dp_sh de_int dp_nil))) db_nil)) (pgs_cons (pg_name (i := 12) sc__law_light.nd rfl (by first | exact .inl rfl | exact .inr rfl)) (pgs_cons (pg_name (i := 13) sc__law_light.nd rfl (by first | exact .inl rfl | exact .inr rfl)) pgs_nil)) (.cons (.cons .nil)))
 (dss_cons (ds_set (i := 14) sc__law_light.nd rfl (by first | exact .inl rfl | exact .inr rfl) (de_call (ok__law_roll t) (mono__law_roll t w s (hr.mono (by decide))) (hr.mono (by decide)) (by rfl) t.g__law_roll t.f__law_roll.kp (bi__law_roll t) (takes_of rfl rfl rfl rfl) (dp_dc (pv 0) (dp_sh (de_op opD_add mono_add (dr_var 12 (pv 12)) (dr_of de_int)) dp_nil))))
 (dss_cons (ds_set (i := 15) sc__law_light.nd rfl (by first | exact .inl rfl | exact .inr rfl) (de_call (ok_by_turns t) (mono_by_turns t w s (hr.mono (by decide))) (hr.mono (by decide)) (by rfl) t.g_by_turns t.f_by_turns.kp (bi_by_turns t) (takes_of rfl rfl rfl rfl) (dp_sh (de_var 12 (pv 12)) (dp_sh (de_var 14 (pv 14)) (dp_sh (de_var 13 (pv 13)) (dp_sh de_int dp_nil))))))
 (dss_cons (ds_set (i := 16) sc__law_light.nd rfl (by first | exact .inl rfl | exact .inr rfl) (de_fresh (df_lc (by rfl) sc__law_light.nd (di_range1 (by rfl) t.m_range (da_cons (de_var 12 (pv 12)) da_nil)) (blk_by (own := [("one", 17)]) (by rfl)) (sl := [17]) (by decide) (fun _ _ _ _ _ => (dg_name 17 (pg_name sc__law_light.nd rfl (by first | exact .inl rfl | exact .inr rfl)))) (fun _ _ _ _ _ => dts_nil) (fun _ _ _ _ _ => (de_callB cd_len mono_len (by rfl) t.m_len bt_len (dr_of (de_fresh (df_lc (by rfl) sc__law_light.nd (di_tup (de_var 15 (pv 15))) (blk_by (own := [("row", 20)]) (by rfl)) (sl := [20]) (by decide) (fun _ _ _ _ _ => (dg_name 20 (pg_name sc__law_light.nd rfl (by first | exact .inl rfl | exact .inr rfl)))) (fun _ _ _ _ _ => (dts_one (dt_cmp (opD_in hr) mono_in (dr_var 17 (pv 17)) (dr_var 20 (pv 20)) (by rfl)))) (fun _ _ _ _ _ => de_int)))))))))
 (dss_cons (ds_if (dt_bool (dw_or (dt_cmp (opD_ne hr) mono_eq (dr_of (de_callB cd_len mono_len (by rfl) t.m_len bt_len (dr_var 15 (pv 15)))) (dr_var 13 (pv 13)) (by rfl)) (dw_or1 (dt_cmp (opD_ne hr) mono_eq (dr_of (de_fresh (df_lc (by rfl) sc__law_light.nd (di_tup (de_var 15 (pv 15))) (blk_by (own := [("row", 20)]) (by rfl)) (sl := [20]) (by decide) (fun _ _ _ _ _ => (dg_name 20 (pg_name sc__law_light.nd rfl (by first | exact .inl rfl | exact .inr rfl)))) (fun _ _ _ _ _ => (dts_one (dt_bool (dw_or (dt_cmp (opD_ne hr) mono_eq (dr_of (de_callB cd_len mono_len (by rfl) t.m_len bt_len (dr_var 20 (pv 20)))) (dr_var 14 (pv 14)) (by rfl)) (dw_or1 (dt_cmp (opD_ne hr) mono_eq (dr_of (de_fresh (df_callTy cf_list mono_list (by rfl) t.m_list bt_list (dr_var 20 (pv 20))))) (dr_of (de_fresh (df_callB (cf_sortedT hr) mono_sortedT (by rfl) t.m_sorted bt_sorted (dr_var 20 (pv 20))))) (by rfl))))))) (fun _ _ _ _ _ => (de_var 20 (pv 20)))))) (dr_of (de_fresh (df_lst da_nil))) (by rfl)))))
 (dss_one (ds_ret de_bl)) dss_nil)
 (dss_cons (ds_if (dt_bool (dw_or (dt_cmp (opD_ne hr) mono_eq (dr_of (de_callB (cd_sum hr) mono_sum (by rfl) t.m_sum bt_sum (dr_var 16 (pv 16)))) (dr_of (de_op opD_mul mono_mul (dr_var 13 (pv 13)) (dr_var 14 (pv 14)))) (by rfl)) (dw_or1 (dt_cmp opD_gtI mono_fC (dr_of (de_op opD_sub mono_fI (dr_of (de_callB (cd_max hr) mono_max (by rfl) t.m_max bt_max (dr_var 16 (pv 16)))) (dr_of (de_callB (cd_min hr) mono_min (by rfl) t.m_min bt_min (dr_var 16 (pv 16)))))) (dr_of de_int) (by rfl)))))
 (dss_one (ds_ret de_bl)) dss_nil)
 (dss_cons (ds_if (dt_bool (dw_and (dt_cmp opD_gtI mono_fC (dr_of (de_callB (cd_max hr) mono_max (by rfl) t.m_max bt_max (dr_var 16 (pv 16)))) (dr_of de_int) (by rfl)) (dw_and1 (dt_cmp (opD_ne hr) mono_eq (dr_of (de_told (hs := hsT a) (k := 28) (Ng := N__law_told) (by rfl) t.g__law_told t.f__law_told (bi__law_told t) sc__law_told (by rfl) (.inl (by rfl)) (told_gives3 t.apart (by rfl) t.x_NoWay.g (by decide) (by rfl) t.x_BadPlan.g (by decide) (by rfl) t.x_BadPaper.g (by decide) (fun _ => by rfl)) t.l__law_light (by rfl) t.lm__law_light t.lu__law_light t.ln__law_light hr (lamS_by (by rfl)) (by rfl) (fun _ _ _ _ _ => by rfl) (fun A outer s H E f c hrL => (de_call (ok_by_turns t) (mono_by_turns t w s (hrL.mono (by decide))) (hrL.mono (by decide)) (by rfl) t.g_by_turns t.f_by_turns.kp (bi_by_turns t) (takes_of rfl rfl rfl rfl) (dp_sh (de_var 12 (pv 12)) (dp_sh (de_var 14 (pv 14)) (dp_sh (de_var 13 (pv 13)) (dp_sh (de_op opD_sub mono_fI (dr_of (de_callB (cd_max hrL) mono_max (by rfl) t.m_max bt_max (dr_var 16 (pv 16)))) (dr_of de_int)) dp_nil)))))))) (dr_of de_str) (by rfl)))))
 (dss_one (ds_ret de_bl)) dss_nil)
 (dss_cons (ds_if (dt_cmp (opD_ne hr) mono_eq (dr_of (de_call (ok_by_turns t) (mono_by_turns t w s (hr.mono (by decide))) (hr.mono (by decide)) (by rfl) t.g_by_turns t.f_by_turns.kp (bi_by_turns t) (takes_of rfl rfl rfl rfl) (dp_sh (de_var 12 (pv 12)) (dp_sh (de_var 14 (pv 14)) (dp_sh (de_var 13 (pv 13)) (dp_sh (de_callB (cd_max hr) mono_max (by rfl) t.m_max bt_max (dr_var 16 (pv 16))) dp_nil)))))) (dr_var 15 (pv 15)) (by rfl))
 (dss_one (ds_ret de_bl)) dss_nil)
 (dss_one (ds_ret de_bl)))))))))))))))))))))
theorem mono__law_light (t : Tx a K mg base T) (w : World) (s : Shared) {A : Around} (hr : Room (30 + 1) A) : Mono (c__law_light a) := mono_cOf (dd__law_light (P := PySem.Challenge.pw_museum_k14_loans_and_light) (w := w) t A [] s (fun _ => none) (fun _ _ _ => False) (hr.deeper _)).mono
theorem ok__law_light (t : Tx a K mg base T) : FnOk P w K mg base (L2.CX P w) (30 + 1) a.f__law_light a.d__law_light ["dice"] (spD T K 1 (c__law_light a)) := fn_okD t.f__law_light sc__law_light fun A outer s H E hr => dd__law_light t A outer s H E hr
def u_law (a : Ad) : SW :=
 (sSeq (sParN [2, 3] (wbOl (wLst wNil) (wbOl (wLst wNil) wpNil)))
 (sSeq (sFor (wRng1 (wCons (wCall 2 (c__law_roll a) (wpDc 1 (wpSh (wC (.int 7)) wpNil))) wNil)) (gNameD 4)
 (sSeq (sSet 5 (wCall 2 (c__law_roll a) (wpDc 1 (wpSh (wC (.int 9)) wpNil))))
 (sSeq (sApp 2 (wTup (wCons (w2 fIx (wC (.str "xy")) (wCall 2 (c__law_roll a) (wpDc 1 (wpSh (wC (.int 2)) wpNil)))) (wCons (wVar 5) (wCons (w2 fAdd (w2 fAdd (wRd 5) (wC (.int 1))) (wCall 2 (c__law_roll a) (wpDc 1 (wpSh (wC (.int 4)) wpNil)))) wNil)))))
 (sApp 3 (w2 fAdd (wC (.int 1)) (wCall 2 (c__law_roll a) (wpDc 1 (wpSh (wC (.int 9)) wpNil))))))))
 (sSeq (sOwn 6 (wLst wNil))
 (sFrz 2 (sSeq (sFor (wItL (wVar 2)) (gTupD 3 (gConsD (gNameD 7) (gConsD (gNameD 5) (gConsD (gNameD 8) gNilD))))
 (sApp 6 (wLc (wRng2 (wCons (wVar 5) (wCons (wVar 8) wNil))) (gNameD 12) wYes (wTup (wCons (wVar 7) (wCons (wVar 12) wNil))) [12])))
 (sSeq (sSet 9 (wLst wNil))
 (sSeq (sFor (wRng1 (wCons (w1 fLen (wRd 2)) wNil)) (gNameD 4)
 (sSet 9 (w2 fCat (wRd 9) (wLc (wRng1 (wCons (wVar 4) wNil)) (gNameD 17) (wT (w2 (fEq true) (wLc (wItL (w2 fIx (wRd 6) (wRd 17))) (gNameD 18) (wT (w2 (fIn false) (wRd 18) (w2 fIx (wRd 6) (wRd 4)))) (wVar 18) [18]) (wLst wNil))) (wTup (wCons (wVar 17) (wCons (wVar 4) wNil))) [17]))))
 (sFrz 2 (sSeq (sIf (wT (w2 (fEq true) (w1 fList (wCall 1 (c_clashes a) (wpSh (wVar 2) wpNil))) (w1 fSorted (wRd 9)))) (sRet (wC (.bool false))) sNil)
 (sSeq (sIf (wT (w2 (fEq true) (wLc (wItL (wVar 9)) (gNameD 19) (wNot (wT (wCall 2 (c_clash a) (wpSh (w2 fIx (wRd 2) (w2 fIx (wRd 19) (wC (.int 0)))) (wpSh (w2 fIx (wRd 2) (w2 fIx (wRd 19) (wC (.int 1)))) wpNil))))) (wVar 19) [19]) (wLst wNil))) (sRet (wC (.bool false))) sNil)
 (sSeq (sParN [10, 11] (wpSh (wDisp (wqCons (wC (.str "x")) (wCall 2 (c__law_roll a) (wpDc 1 (wpSh (wC (.int 5)) wpNil))) (wqCons (wC (.str "y")) (wCall 2 (c__law_roll a) (wpDc 1 (wpSh (wC (.int 5)) wpNil))) wqNil))) (wpSh (wTup (wCons (wC (.int 0)) (wCons (wC (.int 0)) wNil))) wpNil)))
 (sSeq (sFor (wRng1 (wCons (wC (.int 14)) wNil)) (gNameD 12)
 (sFrz 6 (sSeq (sOwn 13 (wLc (wItS (wC (.str "xy"))) (gNameD 7) (wT (w2 (fEq true) (wLc (wItL (wVar 6)) (gNameD 20) (wT (w2 (fIn false) (wTup (wCons (wVar 7) (wCons (wVar 12) wNil))) (wRd 20))) (wC (.int 1)) [20]) (wLst wNil))) (wVar 7) [7]))
 (sFrz 2 (sSeq (sIf (wT (w2 (fEq true) (w1 fList (wCall 2 (c_away a) (wpSh (wVar 2) (wpSh (wVar 12) wpNil)))) (wRd 13))) (sRet (wC (.bool false))) sNil)
 (sFrz 13 (sSeq (sSet 14 (w1 fSum (wLc (wItL (wVar 13)) (gNameD 7) wYes (wDIx 10 (wVar 7)) [7])))
 (sSet 11 (wIf (wT (w2 (fC fun i j => decide (j < i)) (wRd 14) (w2 fIx (wRd 11) (wC (.int 0))))) (wTup (wCons (wVar 14) (wCons (wVar 12) wNil))) (wVar 11))))))))))
 (sFrz 2 (sSeq (sIf (wT (w2 (fEq true) (wCall 2 (c_most_away a) (wpSh (wVar 2) (wpSh (wVar 10) wpNil))) (wRd 11))) (sRet (wC (.bool false))) sNil)
 (sSeq (sSet 15 (wLst (wCons (wTup wNil) wNil)))
 (sSeq (sFor (wRng1 (wCons (w1 fLen (wRd 2)) wNil)) (gNameD 4)
 (sSet 15 (w2 fCat (wRd 15) (wLc (wItL (wVar 15)) (gNameD 20) wYes (w2 fAdd (wRd 20) (wTup (wCons (wVar 4) wNil))) [20]))))
 (sSeq (sOwn 16 (wLc (wItL (wVar 15)) (gNameD 20) (wT (w2 (fEq false) (wLc (wItL (wVar 9)) (gNameD 19) (wAnd (wT (w2 (fIn false) (w2 fIx (wRd 19) (wC (.int 0))) (wRd 20))) (wT (w2 (fIn false) (w2 fIx (wRd 19) (wC (.int 1))) (wRd 20)))) (wVar 19) [19]) (wLst wNil))) (wTup (wCons (w2 (fI CT fun i j => i - j) (wC (.int 0)) (w1 fSum (wLc (wItT (wVar 20)) (gNameD 4) wYes (w2 fIx (wRd 3) (wRd 4)) [4]))) (wCons (wVar 20) wNil))) [20]))
 (sFrz 3 (sFrz 2 (sSeq (sIf (wT (w2 (fEq true) (wCall 2 (c_best_loans a) (wpSh (wVar 2) (wpSh (wVar 3) wpNil))) (wTup (wCons (w2 (fI CT fun i j => i - j) (wC (.int 0)) (w2 fIx (w1 fMin (wRd 16)) (wC (.int 0)))) (wCons (w2 fIx (w1 fMin (wRd 16)) (wC (.int 1))) wNil))))) (sRet (wC (.bool false))) sNil)
 (sSeq (sIf (wNot (wT (wCall 1 (c__law_light a) (wpDc 1 wpNil)))) (sRet (wC (.bool false))) sNil)
 (sIf (wT (w2 (fEq true) (wTold (hsT a) (wCall 1 (c_check_loans a) (wpSh (wLst (wCons (wTup (wCons (wC (.str "x")) (wCons (wC (.int 1)) (wCons (wC (.int 1)) wNil)))) wNil)) wpNil))) (wC (.str "plan")))) (sRet (wC (.bool false))) sNil))))))))))))))))))))))
def i_law (a : Ad) : PW := (wCall 2 (c__law_rounds a) (wpSc 0 (wpSh (wC (.int 3)) wpNil)))
theorem di_law (t : Tx a K mg base T) (A : Around) (outer : List Env) (s : Shared) (H : Hp) (E : XK) (hr : Room 40 (A.deeper (envOfC "law" (defScope s_law) s.heap.objs.size a.f_law (.ref a.c_law)))) : DE T (cxOf (L2.CX P w) P w K mg base N_law "law" (defScope s_law) a.f_law (.ref a.c_law) A outer s H E) (fun cls d _ H => E cls d H) (lawIter s_law) (i_law a) := (de_call (ok__law_rounds t) (mono__law_rounds t w s (hr.mono (by decide))) (hr.mono (by decide)) (by rfl) t.g__law_rounds t.f__law_rounds.kp (bi__law_rounds t) (takes_of rfl rfl rfl rfl) (dp_sc (pv 0) (dp_sh de_int dp_nil)))
theorem dd_law (t : Tx a K mg base T) (A : Around) (outer : List Env) (s : Shared) (H : Hp) (E : XK) (hr : Room 40 (A.deeper (envOfC "law" (defScope s_law) s.heap.objs.size a.f_law (.ref a.c_law)))) :
  DSs T (cxOf (L2.CX P w) P w K mg base N_law "law" (defScope s_law) a.f_law (.ref a.c_law) A outer s H E) (fun cls d _ H => E cls d H) (lawBody s_law) (u_law a) :=
 (dss_cons (ds_parT (is := [2, 3]) (n := 2) rfl (db_ol (df_lst da_nil) (db_ol (df_lst da_nil) db_nil)) (pgs_cons (pg_name (i := 2) sc_law.nd rfl (by first | exact .inl rfl | exact .inr rfl)) (pgs_cons (pg_name (i := 3) sc_law.nd rfl (by first | exact .inl rfl | exact .inr rfl)) pgs_nil)) (.cons (.cons .nil)))
 (dss_cons (ds_for (passes_of rfl) rfl (di_range1 (by rfl) t.m_range (da_cons (de_call (ok__law_roll t) (mono__law_roll t w s (hr.mono (by decide))) (hr.mono (by decide)) (by rfl) t.g__law_roll t.f__law_roll.kp (bi__law_roll t) (takes_of rfl rfl rfl rfl) (dp_dc (pv 1) (dp_sh de_int dp_nil))) da_nil)) (dg_name 4 (pg_name sc_law.nd rfl (by first | exact .inl rfl | exact .inr rfl)))
 (dss_cons (ds_set (i := 5) sc_law.nd rfl (by first | exact .inl rfl | exact .inr rfl) (de_call (ok__law_roll t) (mono__law_roll t w s (hr.mono (by decide))) (hr.mono (by decide)) (by rfl) t.g__law_roll t.f__law_roll.kp (bi__law_roll t) (takes_of rfl rfl rfl rfl) (dp_dc (pv 1) (dp_sh de_int dp_nil))))
 (dss_cons (ds_app (i := 2) (pv 2) (de_tup (da_cons (de_ix (dr_of de_str) (dr_of (de_call (ok__law_roll t) (mono__law_roll t w s (hr.mono (by decide))) (hr.mono (by decide)) (by rfl) t.g__law_roll t.f__law_roll.kp (bi__law_roll t) (takes_of rfl rfl rfl rfl) (dp_dc (pv 1) (dp_sh de_int dp_nil))))) (da_cons (de_var 5 (pv 5)) (da_cons (de_op opD_add mono_add (dr_of (de_op opD_add mono_add (dr_var 5 (pv 5)) (dr_of de_int))) (dr_of (de_call (ok__law_roll t) (mono__law_roll t w s (hr.mono (by decide))) (hr.mono (by decide)) (by rfl) t.g__law_roll t.f__law_roll.kp (bi__law_roll t) (takes_of rfl rfl rfl rfl) (dp_dc (pv 1) (dp_sh de_int dp_nil))))) da_nil)))))
 (dss_one (ds_app (i := 3) (pv 3) (de_op opD_add mono_add (dr_of de_int) (dr_of (de_call (ok__law_roll t) (mono__law_roll t w s (hr.mono (by decide))) (hr.mono (by decide)) (by rfl) t.g__law_roll t.f__law_roll.kp (bi__law_roll t) (takes_of rfl rfl rfl rfl) (dp_dc (pv 1) (dp_sh de_int dp_nil))))))))))
 (dss_cons (ds_own (i := 6) sc_law.nd rfl (by first | exact .inl rfl | exact .inr rfl) (df_lst da_nil))
 (dss_frz 2 (dss_cons (ds_for (passes_of rfl) rfl (di_list (de_var 2 (pv 2))) (dg_tup (by rfl) (dgs_cons (dg_name 7 (pg_name sc_law.nd rfl (by first | exact .inl rfl | exact .inr rfl))) (dgs_cons (dg_name 5 (pg_name sc_law.nd rfl (by first | exact .inl rfl | exact .inr rfl))) (dgs_cons (dg_name 8 (pg_name sc_law.nd rfl (by first | exact .inl rfl | exact .inr rfl))) dgs_nil))))
 (dss_one (ds_app (i := 6) (pv 6) (de_fresh (df_lc (by rfl) sc_law.nd (di_range2 (by rfl) t.m_range (da_cons (de_var 5 (pv 5)) (da_cons (de_var 8 (pv 8)) da_nil))) (blk_by (own := [("day", 12)]) (by rfl)) (sl := [12]) (by decide) (fun _ _ _ _ _ => (dg_name 12 (pg_name sc_law.nd rfl (by first | exact .inl rfl | exact .inr rfl)))) (fun _ _ _ _ _ => dts_nil) (fun _ _ _ _ _ => (de_tup (da_cons (de_var 7 (pv 7)) (da_cons (de_var 12 (pv 12)) da_nil)))))))))
 (dss_cons (ds_set (i := 9) sc_law.nd rfl (by first | exact .inl rfl | exact .inr rfl) (de_fresh (df_lst da_nil)))
 (dss_cons (ds_for (passes_of rfl) rfl (di_range1 (by rfl) t.m_range (da_cons (de_callB cd_len mono_len (by rfl) t.m_len bt_len (dr_var 2 (pv 2))) da_nil)) (dg_name 4 (pg_name sc_law.nd rfl (by first | exact .inl rfl | exact .inr rfl)))
 (dss_one (ds_set (i := 9) sc_law.nd rfl (by first | exact .inl rfl | exact .inr rfl) (de_fresh (df_op opF_cat mono_cat (dr_var 9 (pv 9)) (dr_of (de_fresh (df_lc (by rfl) sc_law.nd (di_range1 (by rfl) t.m_range (da_cons (de_var 4 (pv 4)) da_nil)) (blk_by (own := [("j", 17)]) (by rfl)) (sl := [17]) (by decide) (fun _ _ _ _ _ => (dg_name 17 (pg_name sc_law.nd rfl (by first | exact .inl rfl | exact .inr rfl)))) (fun _ _ _ _ _ => (dts_one (dt_cmp (opD_ne hr) mono_eq (dr_of (de_fresh (df_lc (by rfl) sc_law.nd (di_list (de_ix (dr_var 6 (pv 6)) (dr_var 17 (pv 17)))) (blk_by (own := [("one", 18)]) (by rfl)) (sl := [18]) (by decide) (fun _ _ _ _ _ => (dg_name 18 (pg_name sc_law.nd rfl (by first | exact .inl rfl | exact .inr rfl)))) (fun _ _ _ _ _ => (dts_one (dt_cmp (opD_in hr) mono_in (dr_var 18 (pv 18)) (dr_of (de_ix (dr_var 6 (pv 6)) (dr_var 4 (pv 4)))) (by rfl)))) (fun _ _ _ _ _ => (de_var 18 (pv 18)))))) (dr_of (de_fresh (df_lst da_nil))) (by rfl)))) (fun _ _ _ _ _ => (de_tup (da_cons (de_var 17 (pv 17)) (da_cons (de_var 4 (pv 4)) da_nil))))))))))))
 (dss_frz 2 (dss_cons (ds_if (dt_cmp (opD_ne hr) mono_eq (dr_of (de_fresh (df_callTy cf_list mono_list (by rfl) t.m_list bt_list (dr_of (de_call (ok_clashes t) (mono_clashes t w s (hr.mono (by decide))) (hr.mono (by decide)) (by rfl) t.g_clashes t.f_clashes.kp (bi_clashes t) (takes_of rfl rfl rfl rfl) (dp_sh (de_var 2 (pv 2)) dp_nil)))))) (dr_of (de_fresh (df_callB (cf_sorted hr) mono_sorted (by rfl) t.m_sorted bt_sorted (dr_var 9 (pv 9))))) (by rfl))
 (dss_one (ds_ret de_bl)) dss_nil)
 (dss_cons (ds_if (dt_cmp (opD_ne hr) mono_eq (dr_of (de_fresh (df_lc (by rfl) sc_law.nd (di_list (de_var 9 (pv 9))) (blk_by (own := [("pair", 19)]) (by rfl)) (sl := [19]) (by decide) (fun _ _ _ _ _ => (dg_name 19 (pg_name sc_law.nd rfl (by first | exact .inl rfl | exact .inr rfl)))) (fun _ _ _ _ _ => (dts_one (dt_not (dt_val (de_call (ok_clash t) (mono_clash t w s (hr.mono (by decide))) (hr.mono (by decide)) (by rfl) t.g_clash t.f_clash.kp (bi_clash t) L2.takes0 (dp_sh (de_ix (dr_var 2 (pv 2)) (dr_of (de_ix (dr_var 19 (pv 19)) (dr_of de_int)))) (dp_sh (de_ix (dr_var 2 (pv 2)) (dr_of (de_ix (dr_var 19 (pv 19)) (dr_of de_int)))) dp_nil))))))) (fun _ _ _ _ _ => (de_var 19 (pv 19)))))) (dr_of (de_fresh (df_lst da_nil))) (by rfl))
 (dss_one (ds_ret de_bl)) dss_nil)
 (dss_cons (ds_parT (is := [10, 11]) (n := 2) rfl (db_sh (de_disp (dq_cons de_str (de_call (ok__law_roll t) (mono__law_roll t w s (hr.mono (by decide))) (hr.mono (by decide)) (by rfl) t.g__law_roll t.f__law_roll.kp (bi__law_roll t) (takes_of rfl rfl rfl rfl) (dp_dc (pv 1) (dp_sh de_int dp_nil))) (dq_cons de_str (de_call (ok__law_roll t) (mono__law_roll t w s (hr.mono (by decide))) (hr.mono (by decide)) (by rfl) t.g__law_roll t.f__law_roll.kp (bi__law_roll t) (takes_of rfl rfl rfl rfl) (dp_dc (pv 1) (dp_sh de_int dp_nil))) dq_nil)) (by rfl) (by rfl) (by simp) (by decide)) (db_sh (de_tup (da_cons de_int (da_cons de_int da_nil))) db_nil)) (pgs_cons (pg_name (i := 10) sc_law.nd rfl (by first | exact .inl rfl | exact .inr rfl)) (pgs_cons (pg_name (i := 11) sc_law.nd rfl (by first | exact .inl rfl | exact .inr rfl)) pgs_nil)) (.cons (.cons .nil)))
 (dss_cons (ds_for (passes_of rfl) rfl (di_range1 (by rfl) t.m_range (da_cons de_int da_nil)) (dg_name 12 (pg_name sc_law.nd rfl (by first | exact .inl rfl | exact .inr rfl)))
 (dss_frz 6 (dss_cons (ds_ownLc (i := 13) rfl sc_law.nd rfl rfl rfl (di_str de_str) (blk_by (own := [("thing", 7)]) (by rfl)) (sl := [7]) (by decide) (fun _ _ _ _ _ => (dg_name 7 (pg_name sc_law.nd rfl (by first | exact .inl rfl | exact .inr rfl)))) (fun _ _ _ _ _ => (dts_one (dt_cmp (opD_ne hr) mono_eq (dr_of (de_fresh (df_lc (by rfl) sc_law.nd (di_list (de_var 6 (pv 6))) (blk_by (own := [("row", 20)]) (by rfl)) (sl := [20]) (by decide) (fun _ _ _ _ _ => (dg_name 20 (pg_name sc_law.nd rfl (by first | exact .inl rfl | exact .inr rfl)))) (fun _ _ _ _ _ => (dts_one (dt_cmp (opD_in hr) mono_in (dr_of (de_tup (da_cons (de_var 7 (pv 7)) (da_cons (de_var 12 (pv 12)) da_nil)))) (dr_var 20 (pv 20)) (by rfl)))) (fun _ _ _ _ _ => de_int)))) (dr_of (de_fresh (df_lst da_nil))) (by rfl)))) (fun _ _ _ _ _ => (de_var 7 (pv 7))))
 (dss_frz 2 (dss_cons (ds_if (dt_cmp (opD_ne hr) mono_eq (dr_of (de_fresh (df_callTy cf_list mono_list (by rfl) t.m_list bt_list (dr_of (de_call (ok_away t) (mono_away t w s (hr.mono (by decide))) (hr.mono (by decide)) (by rfl) t.g_away t.f_away.kp (bi_away t) (takes_of rfl rfl rfl rfl) (dp_sh (de_var 2 (pv 2)) (dp_sh (de_var 12 (pv 12)) dp_nil))))))) (dr_var 13 (pv 13)) (by rfl))
 (dss_one (ds_ret de_bl)) dss_nil)
 (dss_frz 13 (dss_cons (ds_set (i := 14) sc_law.nd rfl (by first | exact .inl rfl | exact .inr rfl) (de_callB (cd_sum hr) mono_sum (by rfl) t.m_sum bt_sum (dr_of (de_fresh (df_lc (by rfl) sc_law.nd (di_list (de_var 13 (pv 13))) (blk_by (own := [("thing", 7)]) (by rfl)) (sl := [7]) (by decide) (fun _ _ _ _ _ => (dg_name 7 (pg_name sc_law.nd rfl (by first | exact .inl rfl | exact .inr rfl)))) (fun _ _ _ _ _ => dts_nil) (fun _ _ _ _ _ => (de_dcx (i := 10) hr (pv 10) (de_var 7 (pv 7)) (fun _ _ => rfl))))))))
 (dss_one (ds_set (i := 11) sc_law.nd rfl (by first | exact .inl rfl | exact .inr rfl) (de_if (dt_cmp opD_gtI mono_fC (dr_var 14 (pv 14)) (dr_of (de_ix (dr_var 11 (pv 11)) (dr_of de_int))) (by rfl)) (de_tup (da_cons (de_var 14 (pv 14)) (da_cons (de_var 12 (pv 12)) da_nil))) (de_var 11 (pv 11))))))))))))
 (dss_frz 2 (dss_cons (ds_if (dt_cmp (opD_ne hr) mono_eq (dr_of (de_call (ok_most_away t) (mono_most_away t w s (hr.mono (by decide))) (hr.mono (by decide)) (by rfl) t.g_most_away t.f_most_away.kp (bi_most_away t) (takes_of rfl rfl rfl rfl) (dp_sh (de_var 2 (pv 2)) (dp_sh (de_var 10 (pv 10)) dp_nil)))) (dr_var 11 (pv 11)) (by rfl))
 (dss_one (ds_ret de_bl)) dss_nil)
 (dss_cons (ds_set (i := 15) sc_law.nd rfl (by first | exact .inl rfl | exact .inr rfl) (de_fresh (df_lst (da_cons (de_tup da_nil) da_nil))))
 (dss_cons (ds_for (passes_of rfl) rfl (di_range1 (by rfl) t.m_range (da_cons (de_callB cd_len mono_len (by rfl) t.m_len bt_len (dr_var 2 (pv 2))) da_nil)) (dg_name 4 (pg_name sc_law.nd rfl (by first | exact .inl rfl | exact .inr rfl)))
 (dss_one (ds_set (i := 15) sc_law.nd rfl (by first | exact .inl rfl | exact .inr rfl) (de_fresh (df_op opF_cat mono_cat (dr_var 15 (pv 15)) (dr_of (de_fresh (df_lc (by rfl) sc_law.nd (di_list (de_var 15 (pv 15))) (blk_by (own := [("row", 20)]) (by rfl)) (sl := [20]) (by decide) (fun _ _ _ _ _ => (dg_name 20 (pg_name sc_law.nd rfl (by first | exact .inl rfl | exact .inr rfl)))) (fun _ _ _ _ _ => dts_nil) (fun _ _ _ _ _ => (de_op opD_add mono_add (dr_var 20 (pv 20)) (dr_of (de_tup (da_cons (de_var 4 (pv 4)) da_nil)))))))))))))
 (dss_cons (ds_ownLc (i := 16) rfl sc_law.nd rfl rfl rfl (di_list (de_var 15 (pv 15))) (blk_by (own := [("row", 20)]) (by rfl)) (sl := [20]) (by decide) (fun _ _ _ _ _ => (dg_name 20 (pg_name sc_law.nd rfl (by first | exact .inl rfl | exact .inr rfl)))) (fun _ _ _ _ _ => (dts_one (dt_cmp (opD_eq hr) mono_eq (dr_of (de_fresh (df_lc (by rfl) sc_law.nd (di_list (de_var 9 (pv 9))) (blk_by (own := [("pair", 19)]) (by rfl)) (sl := [19]) (by decide) (fun _ _ _ _ _ => (dg_name 19 (pg_name sc_law.nd rfl (by first | exact .inl rfl | exact .inr rfl)))) (fun _ _ _ _ _ => (dts_one (dt_bool (dw_and (dt_cmp (opD_in hr) mono_in (dr_of (de_ix (dr_var 19 (pv 19)) (dr_of de_int))) (dr_var 20 (pv 20)) (by rfl)) (dw_and1 (dt_cmp (opD_in hr) mono_in (dr_of (de_ix (dr_var 19 (pv 19)) (dr_of de_int))) (dr_var 20 (pv 20)) (by rfl))))))) (fun _ _ _ _ _ => (de_var 19 (pv 19)))))) (dr_of (de_fresh (df_lst da_nil))) (by rfl)))) (fun _ _ _ _ _ => (de_tup (da_cons (de_op opD_sub mono_fI (dr_of de_int) (dr_of (de_callB (cd_sum hr) mono_sum (by rfl) t.m_sum bt_sum (dr_of (de_fresh (df_lc (by rfl) sc_law.nd (di_tup (de_var 20 (pv 20))) (blk_by (own := [("k", 4)]) (by rfl)) (sl := [4]) (by decide) (fun _ _ _ _ _ => (dg_name 4 (pg_name sc_law.nd rfl (by first | exact .inl rfl | exact .inr rfl)))) (fun _ _ _ _ _ => dts_nil) (fun _ _ _ _ _ => (de_ix (dr_var 3 (pv 3)) (dr_var 4 (pv 4)))))))))) (da_cons (de_var 20 (pv 20)) da_nil)))))
 (dss_frz 3 (dss_frz 2 (dss_cons (ds_if (dt_cmp (opD_ne hr) mono_eq (dr_of (de_call (ok_best_loans t) (mono_best_loans t w s (hr.mono (by decide))) (hr.mono (by decide)) (by rfl) t.g_best_loans t.f_best_loans.kp (bi_best_loans t) (takes_of rfl rfl rfl rfl) (dp_sh (de_var 2 (pv 2)) (dp_sh (de_var 3 (pv 3)) dp_nil)))) (dr_of (de_tup (da_cons (de_op opD_sub mono_fI (dr_of de_int) (dr_of (de_ix (dr_of (de_callB (cd_min hr) mono_min (by rfl) t.m_min bt_min (dr_var 16 (pv 16)))) (dr_of de_int)))) (da_cons (de_ix (dr_of (de_callB (cd_min hr) mono_min (by rfl) t.m_min bt_min (dr_var 16 (pv 16)))) (dr_of de_int)) da_nil)))) (by rfl))
 (dss_one (ds_ret de_bl)) dss_nil)
 (dss_cons (ds_if (dt_not (dt_val (de_call (ok__law_light t) (mono__law_light t w s (hr.mono (by decide))) (hr.mono (by decide)) (by rfl) t.g__law_light t.f__law_light.kp (bi__law_light t) (takes_of rfl rfl rfl rfl) (dp_dc (pv 1) dp_nil))))
 (dss_one (ds_ret de_bl)) dss_nil)
 (dss_one (ds_if (dt_cmp (opD_ne hr) mono_eq (dr_of (de_told (hs := hsT a) (k := 38) (Ng := N__law_told) (by rfl) t.g__law_told t.f__law_told (bi__law_told t) sc__law_told (by rfl) (.inl (by rfl)) (told_gives3 t.apart (by rfl) t.x_NoWay.g (by decide) (by rfl) t.x_BadPlan.g (by decide) (by rfl) t.x_BadPaper.g (by decide) (fun _ => by rfl)) t.l_law (by rfl) t.lm_law t.lu_law t.ln_law hr (lamS_by (by rfl)) (by rfl) (fun _ _ _ _ _ => by rfl) (fun A outer s H E f c hrL => (de_call (ok_check_loans t) (mono_check_loans t w s (hrL.mono (by decide))) (hrL.mono (by decide)) (by rfl) t.g_check_loans t.f_check_loans.kp (bi_check_loans t) (takes_of rfl rfl rfl rfl) (dp_sh (de_fresh (df_lst (da_cons (de_tup (da_cons de_str (da_cons de_int (da_cons de_int da_nil)))) da_nil))) dp_nil))))) (dr_of de_str) (by rfl))
 (dss_one (ds_ret de_bl)) dss_nil)))))))))))))))))))))))
end
section
variable {l : PySem.W.OpenLaw} {w : World} {K : PySem.W.Frag} {h : Heap} {mg : Str → Option Value} {q : Program} {fa : Addr}
/-- what the top has written -/
structure Fc (a : Ad) (K : PySem.W.Frag) : Prop where
  d_check_loans : DefF K "check_loans" s_check_loans a.f_check_loans a.c_check_loans a.d_check_loans
  d_clash : DefF K "clash" s_clash a.f_clash a.c_clash a.d_clash
  d_clashes : DefF K "clashes" s_clashes a.f_clashes a.c_clashes a.d_clashes
  d_away : DefF K "away" s_away a.f_away a.c_away a.d_away
  d_most_away : DefF K "most_away" s_most_away a.f_most_away a.c_most_away a.d_most_away
  d_best_loans : DefF K "best_loans" s_best_loans a.f_best_loans a.c_best_loans a.d_best_loans
  d_borne : DefF K "borne" s_borne a.f_borne a.c_borne a.d_borne
  d_days_left : DefF K "days_left" s_days_left a.f_days_left a.c_days_left a.d_days_left
  d_by_turns : DefF K "by_turns" s_by_turns a.f_by_turns a.c_by_turns a.d_by_turns
  d__law_dice : DefF K "_law_dice" s__law_dice a.f__law_dice a.c__law_dice a.d__law_dice
  d__law_roll : DefF K "_law_roll" s__law_roll a.f__law_roll a.c__law_roll a.d__law_roll
  d__law_rounds : DefF K "_law_rounds" s__law_rounds a.f__law_rounds a.c__law_rounds a.d__law_rounds
  d__law_told : DefF K "_law_told" s__law_told a.f__law_told a.c__law_told a.d__law_told
  d__law_light : DefF K "_law_light" s__law_light a.f__law_light a.c__law_light a.d__law_light
  d_law : DefF K "law" s_law a.f_law a.c_law a.d_law
  t_check_loans : TabF K a.c_check_loans a.p_check_loans
  t_most_away : TabF K a.c_most_away a.p_most_away
  t_best_loans : TabF K a.c_best_loans a.p_best_loans
  t__law_light : TabF K a.c__law_light a.p__law_light
  t_law : TabF K a.c_law a.p_law
  x_NoWay : ExcF K "NoWay" a.x_NoWay
  xe_NoWay : PySem.W.excIn K a.x_NoWay [.type "ValueError", .type "Exception", .type "BaseException", .type "object"] "ValueError.__new__" = true
  x_BadPlan : ExcF K "BadPlan" a.x_BadPlan
  xe_BadPlan : PySem.W.excIn K a.x_BadPlan [.type "ValueError", .type "Exception", .type "BaseException", .type "object"] "ValueError.__new__" = true
  x_BadPaper : ExcF K "BadPaper" a.x_BadPaper
  x_TooLarge : ExcF K "TooLarge" a.x_TooLarge
  xe_TooLarge : PySem.W.excIn K a.x_TooLarge [.type "ValueError", .type "Exception", .type "BaseException", .type "object"] "ValueError.__new__" = true
  m_abs : PySem.W.nsIn K mainGlobals "abs" = some none
  m_any : PySem.W.nsIn K mainGlobals "any" = some none
  m_dict : PySem.W.nsIn K mainGlobals "dict" = some none
  m_enumerate : PySem.W.nsIn K mainGlobals "enumerate" = some none
  m_int : PySem.W.nsIn K mainGlobals "int" = some none
  m_len : PySem.W.nsIn K mainGlobals "len" = some none
  m_list : PySem.W.nsIn K mainGlobals "list" = some none
  m_max : PySem.W.nsIn K mainGlobals "max" = some none
  m_min : PySem.W.nsIn K mainGlobals "min" = some none
  m_range : PySem.W.nsIn K mainGlobals "range" = some none
  m_sorted : PySem.W.nsIn K mainGlobals "sorted" = some none
  m_sum : PySem.W.nsIn K mainGlobals "sum" = some none
  m_tuple : PySem.W.nsIn K mainGlobals "tuple" = some none
  apart : Apart K [a.x_NoWay, a.x_BadPlan, a.x_BadPaper]
  off : ∀ p ∈ [a.p_check_loans, a.p_most_away, a.p_best_loans], a.p__law_light ≠ p ∧ a.p_law ≠ p
  offl : [a.p__law_light, a.p_law].Nodup
def tb (a : Ad) : Tb := { tg := [a.p_check_loans, a.p_most_away, a.p_best_loans], tl := [(a.p__law_light, (envOfC "_law_light" (defScope s__law_light) 0 0 (.ref 0)).qual ++ "<lambda>"), (a.p_law, (envOfC "law" (defScope s_law) 0 0 (.ref 0)).qual ++ "<lambda>")] }
def cs (a : Ad) : List (Addr × Addr) := [(a.c_check_loans, a.p_check_loans), (a.c_most_away, a.p_most_away), (a.c_best_loans, a.p_best_loans), (a.c__law_light, a.p__law_light), (a.c_law, a.p_law)]
theorem tx_of {a : Ad} (F : Fc a K) (X : K.In h) (G : h.Ns mainGlobals mg) {base : Heap} (B : ∀ p ∈ cs a, LamX.TabB base mg p.1 p.2) (dc : List Addr) : Tx a K mg base { tb a with dc := dc } := {
  m_abs := PySem.W.mg_none_of X G F.m_abs
  m_any := PySem.W.mg_none_of X G F.m_any
  m_dict := PySem.W.mg_none_of X G F.m_dict
  m_enumerate := PySem.W.mg_none_of X G F.m_enumerate
  m_int := PySem.W.mg_none_of X G F.m_int
  m_len := PySem.W.mg_none_of X G F.m_len
  m_list := PySem.W.mg_none_of X G F.m_list
  m_max := PySem.W.mg_none_of X G F.m_max
  m_min := PySem.W.mg_none_of X G F.m_min
  m_range := PySem.W.mg_none_of X G F.m_range
  m_sorted := PySem.W.mg_none_of X G F.m_sorted
  m_sum := PySem.W.mg_none_of X G F.m_sum
  m_tuple := PySem.W.mg_none_of X G F.m_tuple
  f_check_loans := F.d_check_loans.F
  g_check_loans := PySem.W.mg_of X G F.d_check_loans.ns
  t_check_loans := gxTab (B (a.c_check_loans, a.p_check_loans) (by simp [cs]))
  tm_check_loans := by simp [tb]
  tn_check_loans := by
    intro p hp
    have := F.off a.p_check_loans (by simp)
    simp only [tb, List.mem_cons, List.not_mem_nil, or_false] at hp
    rcases hp with rfl | rfl
    · exact this.1
    · exact this.2
  f_clash := F.d_clash.F
  g_clash := PySem.W.mg_of X G F.d_clash.ns
  f_clashes := F.d_clashes.F
  g_clashes := PySem.W.mg_of X G F.d_clashes.ns
  f_away := F.d_away.F
  g_away := PySem.W.mg_of X G F.d_away.ns
  f_most_away := F.d_most_away.F
  g_most_away := PySem.W.mg_of X G F.d_most_away.ns
  t_most_away := gxTab (B (a.c_most_away, a.p_most_away) (by simp [cs]))
  tm_most_away := by simp [tb]
  tn_most_away := by
    intro p hp
    have := F.off a.p_most_away (by simp)
    simp only [tb, List.mem_cons, List.not_mem_nil, or_false] at hp
    rcases hp with rfl | rfl
    · exact this.1
    · exact this.2
  f_best_loans := F.d_best_loans.F
  g_best_loans := PySem.W.mg_of X G F.d_best_loans.ns
  t_best_loans := gxTab (B (a.c_best_loans, a.p_best_loans) (by simp [cs]))
  tm_best_loans := by simp [tb]
  tn_best_loans := by
    intro p hp
    have := F.off a.p_best_loans (by simp)
    simp only [tb, List.mem_cons, List.not_mem_nil, or_false] at hp
    rcases hp with rfl | rfl
    · exact this.1
    · exact this.2
  f_borne := F.d_borne.F
  g_borne := PySem.W.mg_of X G F.d_borne.ns
  f_days_left := F.d_days_left.F
  g_days_left := PySem.W.mg_of X G F.d_days_left.ns
  f_by_turns := F.d_by_turns.F
  g_by_turns := PySem.W.mg_of X G F.d_by_turns.ns
  f__law_dice := F.d__law_dice.F
  g__law_dice := PySem.W.mg_of X G F.d__law_dice.ns
  f__law_roll := F.d__law_roll.F
  g__law_roll := PySem.W.mg_of X G F.d__law_roll.ns
  f__law_rounds := F.d__law_rounds.F
  g__law_rounds := PySem.W.mg_of X G F.d__law_rounds.ns
  f__law_told := F.d__law_told.F
  g__law_told := PySem.W.mg_of X G F.d__law_told.ns
  f__law_light := F.d__law_light.F
  g__law_light := PySem.W.mg_of X G F.d__law_light.ns
  l__law_light := B (a.c__law_light, a.p__law_light) (by simp [cs])
  lm__law_light := by simp [tb]
  lu__law_light := fun p hp e => by
    have nd := F.offl
    simp only [List.nodup_cons, List.mem_cons, List.not_mem_nil, or_false, not_or] at nd
    simp only [tb, List.mem_cons, List.not_mem_nil, or_false] at hp
    rcases hp with rfl | rfl
    · rfl
    · exact absurd e (by simp_all [eq_comm])
  ln__law_light := fun z => by
    have := F.off a.p__law_light z
    simp at this
  f_law := F.d_law.F
  g_law := PySem.W.mg_of X G F.d_law.ns
  l_law := B (a.c_law, a.p_law) (by simp [cs])
  lm_law := by simp [tb]
  lu_law := fun p hp e => by
    have nd := F.offl
    simp only [List.nodup_cons, List.mem_cons, List.not_mem_nil, or_false, not_or] at nd
    simp only [tb, List.mem_cons, List.not_mem_nil, or_false] at hp
    rcases hp with rfl | rfl
    · exact absurd e (by simp_all [eq_comm])
    · rfl
  ln_law := fun z => by
    have := F.off a.p_law z
    simp at this
  x_NoWay := ⟨PySem.W.mg_of X G F.x_NoWay.ns, F.x_NoWay.kp, F.x_NoWay.sub, F.x_NoWay.ty⟩
  xe_NoWay := F.xe_NoWay
  x_BadPlan := ⟨PySem.W.mg_of X G F.x_BadPlan.ns, F.x_BadPlan.kp, F.x_BadPlan.sub, F.x_BadPlan.ty⟩
  xe_BadPlan := F.xe_BadPlan
  x_BadPaper := ⟨PySem.W.mg_of X G F.x_BadPaper.ns, F.x_BadPaper.kp, F.x_BadPaper.sub, F.x_BadPaper.ty⟩
  x_TooLarge := ⟨PySem.W.mg_of X G F.x_TooLarge.ns, F.x_TooLarge.kp, F.x_TooLarge.sub, F.x_TooLarge.ty⟩
  xe_TooLarge := F.xe_TooLarge
  apart := F.apart }
theorem law_at {a : Ad} (F : Fc a K) (X : K.In h) (G : h.Ns mainGlobals mg) (hl : l.prog = PySem.Challenge.pw_museum_k14_loans_and_light) (hfa : mg "law" = some (.ref fa)) (tabs : ∀ (y : Str) (f : Addr), ((recsOf q).any fun e => e.name == y) = true → mg y = some (.ref f) → LamX.OwnTab K f h)
    (hq : ∀ y ∈ [("check_loans" : Str), ("most_away" : Str), ("best_loans" : Str), ("_law_light" : Str), ("law" : Str)], ((recsOf q).any fun e => e.name == y) = true)
    (pure_law : ∀ ns : List Int, ns.length ≤ 63 → i_law a (.scr ns :: uns (N_law.length - 1)) (fun d => ∃ ds, d = .list ds ∧ Triples ds ∧ u_law a ((uns N_law.length).set 1 .dice) (lawEnd N_law.length)) (fun _ => False)) :
    LamX.LawAtS l w K (L2.CX l.prog w) 41 63 "script" mg fa h := by
  have e := hfa.symm.trans (PySem.W.mg_of X G F.d_law.ns)
  cases e
  refine ⟨a.d_law, cs a, fun vs H Q _ => ∃ (b : Addr) (ns : List Int), vs = [.ref b] ∧ ns.length ≤ 63 ∧ SqL K H b (ns.map V.int) ∧ TOk (tb a) H ∧ ∀ H', Q (.bl true) H', fun p hp => ?_, fun p hp => ?_, fun p hp => ?_, fun s u => ?_, fun H b ns hn _ hc hS => ⟨b, ns, rfl, hn, hS, ⟨fun P hP => ?_, fun p hp => ?_⟩, fun _ => rfl⟩, fun base Kb Gb B => ?_⟩
  · simp only [cs, List.mem_cons, List.not_mem_nil, or_false] at hp
    rcases hp with rfl | rfl | rfl | rfl | rfl
    · exact F.t_check_loans.empty F.d_check_loans.F (tabs "check_loans" _ (hq _ (by simp)) (PySem.W.mg_of X G F.d_check_loans.ns))
    · exact F.t_most_away.empty F.d_most_away.F (tabs "most_away" _ (hq _ (by simp)) (PySem.W.mg_of X G F.d_most_away.ns))
    · exact F.t_best_loans.empty F.d_best_loans.F (tabs "best_loans" _ (hq _ (by simp)) (PySem.W.mg_of X G F.d_best_loans.ns))
    · exact F.t__law_light.empty F.d__law_light.F (tabs "_law_light" _ (hq _ (by simp)) (PySem.W.mg_of X G F.d__law_light.ns))
    · exact F.t_law.empty F.d_law.F (tabs "law" _ (hq _ (by simp)) (PySem.W.mg_of X G F.d_law.ns))
  · simp only [cs, List.mem_cons, List.not_mem_nil, or_false] at hp
    rcases hp with rfl | rfl | rfl | rfl | rfl
    · exact F.t_check_loans.out
    · exact F.t_most_away.out
    · exact F.t_best_loans.out
    · exact F.t__law_light.out
    · exact F.t_law.out
  · simp only [cs, List.mem_cons, List.not_mem_nil, or_false] at hp
    rcases hp with rfl | rfl | rfl | rfl | rfl
    · exact PySem.W.codeHd_of_K X F.t_check_loans.hd
    · exact PySem.W.codeHd_of_K X F.t_most_away.hd
    · exact PySem.W.codeHd_of_K X F.t_best_loans.hd
    · exact PySem.W.codeHd_of_K X F.t__law_light.hd
    · exact PySem.W.codeHd_of_K X F.t_law.hd
  · obtain ⟨oc, od, kV, doc, pm, an, ct, osl, e, _, _⟩ := F.d_law.F.ex
    rw [e]
    exact .of_eq rfl
  · refine ⟨#[], ?_, trivial⟩
    simp only [tb, List.mem_cons, List.not_mem_nil, or_false] at hP
    rcases hP with rfl | rfl | rfl
    · exact hc (a.c_check_loans, a.p_check_loans) (by simp [cs])
    · exact hc (a.c_most_away, a.p_most_away) (by simp [cs])
    · exact hc (a.c_best_loans, a.p_best_loans) (by simp [cs])
  · simp only [tb, List.mem_cons, List.not_mem_nil, or_false] at hp
    rcases hp with rfl | rfl
    · exact LamX.TabS.nil (hc (a.c__law_light, a.p__law_light) (by simp [cs]))
    · exact LamX.TabS.nil (hc (a.c_law, a.p_law) (by simp [cs]))
  · have t := fun dc => tx_of F X G B dc
    rw [hl]
    exact law_okD (T := tb a) (k := 40) (i := 1) (wi := i_law a) (bw := u_law a) F.d_law.F sc_law (by decide) (by decide) rfl rfl (fun A outer s H E hr => di_law (t []) A outer s H E hr) (fun A outer s H E => pg_name sc_law.nd rfl (by first | exact .inl rfl | exact .inr rfl)) (fun A outer s H E dc hr => dd_law (t dc) A outer s H E hr) (fun _ _ _ _ _ _ => rfl) pure_law
end
end M14
set_option Elab.async false
set_option linter.all false
set_option maxRecDepth 100000
set_option maxHeartbeats 1000000
namespace M14
open PySem PySem.Spec PyProof.Rows L2 PL
theorem sz3 : 3 ≤ sizeLine := by rw [sizeLine_eq]; decide
theorem p_dice (a : Ad) (c : Int) (Q : PyData → Prop) (E : Exn → Prop) (h : ∀ x y z : Int, Q (.list [.int x, .int y, .int z])) : c__law_dice a [.sh (.int c)] Q E := by
  have s3 := sz3
  show u__law_dice a [.sh (.int c)] _
  simp only [u__law_dice, sSeq, sIf, sRet, sNil, wT, wCh, w2, wC, wVar, wRd, fC, fI, wLst, wCons, wNil, w1, fAbs, fAdd, fInt, CT, List.getElem?_cons_zero]
  refine ⟨trivial, ?_⟩
  have last : CPow 10 18 ∧ ([PyData.int c, PyData.int (1 + c % 1009), PyData.int (if (decide ((10:Int) ^ Int.toNat 18 ≤ c)) = true then 1 else 0)].length ≤ sizeLine ∧ Q (.list [.int c, .int (1 + c % 1009), .int (if (decide ((10:Int) ^ Int.toNat 18 ≤ c)) = true then 1 else 0)])) := ⟨⟨by decide, by decide, by decide⟩, s3, h _ _ _⟩
  by_cases e1 : (0:Int) - 10 < c
  · simp only [decide_eq_true e1]
    by_cases e2 : c < (10:Int)
    · simp only [decide_eq_true e2, if_true]
      exact ⟨s3, h _ _ _⟩
    · simp only [decide_eq_false e2]
      exact ⟨by decide, last⟩
  · simp only [decide_eq_false e1]
    exact ⟨by decide, last⟩
theorem p_roll (a : Ad) (n : Int) (Q : PyData → Prop) (E : Exn → Prop) (h0 : 0 < n) (h1 : n < 1073741824) (h : ∀ r : Int, 0 ≤ r → r < n → Q (.int r)) : c__law_roll a [.dice, .sh (.int n)] Q E := by
  show u__law_roll a [.dice, .sh (.int n), .un] _
  have hm : ∀ x : Int, Q (.int (x % n)) := fun x => h _ (Int.emod_nonneg _ (by omega)) (Int.emod_lt_of_pos _ h0)
  have pl : ∀ i : Int, Pl (.int i) := fun i => ⟨rfl, Nat.zero_le _⟩
  have rest : sSeq (sDst 0 2 (wC (.int 0))) (sSeq (sDst 0 0 (w2 (fI (fun _ j => 0 < j) fun i j => i % j) (w1 fInt (w2 fAdd (w2 fAdd (w2 fMul (wDix 0 0) (wC (.int 48271))) (w2 fMul (wDix 0 1) (wC (.int 69621)))) (wC (.int 11)))) (wC (.int 2147483647))))
      (sSeq (sDst 0 1 (w2 fAdd (wDix 0 1) (wC (.int 1)))) (sRet (w2 (fI (fun _ j => 0 < j) fun i j => i % j) (w1 fInt (w2 fAdd (w2 (fI CDiv fun i j => i / j) (wDix 0 0) (wC (.int 7))) (wDix 0 0))) (wRd 1))))) [.dice, .sh (.int n), .un] { nx := fun _ => Q .none, rt := Q, ex := E } := by
    refine ⟨rfl, by decide, rfl, by decide, rfl, by decide, fun x => ⟨.inr ⟨by decide, by decide⟩, ?_⟩⟩
    refine ⟨rfl, by decide, fun y => ⟨.inr ⟨by decide, by decide⟩, ?_⟩⟩
    refine ⟨(by decide : (0:Int) < 2147483647), rfl, by decide, rfl, by decide, fun z => ?_⟩
    refine ⟨rfl, by decide, fun u => ⟨⟨by decide, by decide⟩, ?_⟩⟩
    exact ⟨rfl, by decide, fun v => ⟨h0, hm _⟩⟩
  refine ⟨rfl, by decide, fun x => ⟨⟨pl _, pl _⟩, ?_⟩⟩
  have first : ∀ D, sSeq (sSet 2 (w2 (fI (fun _ j => 0 < j) fun i j => i % j) (w1 fInt (wDix 0 0)) (wRd 1))) (sSeq (sDst 0 0 (w2 (fI CDiv fun i j => i / j) (wDix 0 0) (wRd 1))) (sRet (wVar 2))) [.dice, .sh (.int n), .un] { nx := D, rt := Q, ex := E } := fun D =>
    ⟨rfl, by decide, fun y => ⟨h0, rfl, by decide, rfl, by decide, fun z => ⟨⟨h0, h1⟩, hm _⟩⟩⟩
  by_cases e : PyData.eqv (.int x) (.int 2) = true
  · rw [if_neg (by decide), e]
    exact first _
  · rw [if_neg (by decide), Bool.eq_false_iff.mpr e]
    refine ⟨rfl, by decide, fun y => ⟨⟨pl _, pl _⟩, ?_⟩⟩
    by_cases e' : PyData.eqv (.int y) (.int 1) = true
    · rw [if_neg (by decide), e']
      refine ⟨rfl, by decide, fun z => ?_⟩
      by_cases e'' : 0 < z
      · show if decide (0 < z) = true then _ else _
        rw [if_pos (decide_eq_true e'')]
        exact first _
      · show if decide (0 < z) = true then _ else _
        rw [if_neg (by rw [decide_eq_false e'']; decide)]
        exact rest
    · rw [if_neg (by decide), Bool.eq_false_iff.mpr e']
      exact rest
theorem plainAll_ints : ∀ ns : List Int, PyData.plainAll (ns.map .int) = true
  | [] => rfl
  | n :: r => by
    show (PyData.plain (.int n) && PyData.plainAll (r.map .int)) = true
    rw [plainAll_ints r]
    rfl
theorem depthAll_ints : ∀ ns : List Int, PyData.depthAll (ns.map .int) ≤ 1
  | [] => Nat.zero_le _
  | n :: r => by
    have := depthAll_ints r
    simp only [List.map_cons, PyData.depthAll, PyData.depth]
    omega
theorem Pl_ints (ns : List Int) : Pl (.list (ns.map .int)) := ⟨plainAll_ints ns, by
  have := depthAll_ints ns
  simp only [PyData.depth]
  omega⟩
theorem cutD_map (ns : List Int) (lo hi : Option Int) : ∃ ms : List Int, PL.cutD (ns.map .int) lo hi = ms.map .int ∧ ms.length ≤ ns.length := by
  unfold PL.cutD
  rw [← List.map_drop, ← List.map_take]
  exact ⟨_, rfl, by rw [List.length_take, List.length_drop]; omega⟩
theorem lc_dice (a : Ad) {ρw : En} {ns : List Int} {x y : PyData} (hρ : ρw = [.scr ns, .sh x, .sh y, .un]) (Q : List PyData → Prop) (h : ∀ ds, Triples ds → Q ds) : ∀ (ms : List Int) (acc : List PyData), Triples acc → acc.length + ms.length < 1000 →
    goLc (gNameD 3) wYes (wCall 1 (c__law_dice a) (wpSh (wVar 3) wpNil)) ρw (ms.map .int) acc Q
  | [], acc, t, _ => h acc t
  | m :: r, acc, t, hl => by
    subst hρ
    rw [List.length_cons] at hl
    refine ⟨rfl, p_dice a m _ _ fun x y z => ⟨?_, lc_dice a rfl Q h r _ (fun d hd => ?_) ?_⟩⟩
    · rw [sizeLine_eq]; omega
    · rcases List.mem_append.mp hd with hd | hd
      · exact t d hd
      · rw [List.mem_singleton.mp hd]; exact ⟨x, y, z, rfl⟩
    · rw [List.length_append]
      simp only [List.length_cons, List.length_nil]
      omega
theorem p_rounds (a : Ad) (ns : List Int) (k : Int) (hn : ns.length ≤ 63) (Q : PyData → Prop) (E : Exn → Prop) (h : ∀ ds, Triples ds → Q (.list ds)) : c__law_rounds a [.scr ns, .sh (.int k)] Q E := by
  show u__law_rounds a [.scr ns, .sh (.int k), .un, .un] _
  obtain ⟨ms, e, hm⟩ := cutD_map ns none (some k)
  have fin : ∀ ms : List Int, ms.length ≤ 63 → sRet (wLc (wItL (wVar 2)) (gNameD 3) wYes (wCall 1 (c__law_dice a) (wpSh (wVar 3) wpNil)) [3]) [.scr ns, .sh (.int k), .sh (.list (ms.map .int)), .un] { nx := fun _ => Q .none, rt := Q, ex := E } := fun ms hm => by
    refine ⟨fun i hi s hs => ?_, lc_dice a rfl _ h ms [] (fun d hd => by cases hd) (by simp only [List.length_nil]; omega)⟩
    rw [List.mem_singleton.mp hi] at hs
    cases hs
    rfl
  have rest : sSeq (sIf (wT (w2 (fEq false) (wRd 2) (wLst wNil))) (sSet 2 (wLst (wCons (wC (.int 0)) wNil))) sNil) (sRet (wLc (wItL (wVar 2)) (gNameD 3) wYes (wCall 1 (c__law_dice a) (wpSh (wVar 3) wpNil)) [3]))
      [.scr ns, .sh (.int k), .sh (.list (ms.map .int)), .un] { nx := fun _ => Q .none, rt := Q, ex := E } := by
    refine ⟨Nat.zero_le _, ⟨Pl_ints ms, Pl_ints []⟩, ?_⟩
    show if PyData.eqv (.list (ms.map .int)) (.list []) = true then _ else _
    by_cases c : PyData.eqv (.list (ms.map .int)) (.list []) = true
    · rw [if_pos c]
      exact ⟨by rw [sizeLine_eq]; decide, fin [0] (by decide)⟩
    · rw [if_neg c]
      exact fin ms (by omega)
  rw [← e] at rest
  exact ⟨ns, rfl, rest⟩
end M14
set_option Elab.async false
set_option linter.all false
set_option maxRecDepth 100000
set_option maxHeartbeats 1000000
namespace U
open PySem PySem.Spec PyProof.Rows L2 PL
open PySem.W (Datum DatumOrd Tup)
theorem noown {vs : List Nat} {ρ : En} (h : (vs.all fun i => match ρ[i]? with | some s => !s.owned | none => true) = true) : NoOwn vs ρ := fun i hi s hs => by
  have := List.all_eq_true.mp h i hi
  rw [hs] at this
  simpa using this
/-! dicts -/
theorem fd_pos {κ : Type} [DecidableEq κ] {k : κ} {p : κ × PyData} {r : List (κ × PyData)} (e : p.1 = k) : (p :: r).find? (fun p => decide (p.1 = k)) = some p := List.find?_cons_of_pos (by rw [decide_eq_true_eq]; exact e)
theorem fd_neg {κ : Type} [DecidableEq κ] {k : κ} {p : κ × PyData} {r : List (κ × PyData)} (e : p.1 ≠ k) : (p :: r).find? (fun p => decide (p.1 = k)) = r.find? (fun p => decide (p.1 = k)) := List.find?_cons_of_neg (by rw [decide_eq_true_eq]; exact e)
theorem look_put_same {κ : Type} [DecidableEq κ] (kvs : List (κ × PyData)) (k : κ) (d : PyData) : lookK (putD kvs k d) k = some d := by
  unfold lookK putD
  split
  · rename_i c
    induction kvs with
    | nil => simp at c
    | cons p r ih =>
      by_cases e : p.1 = k
      · rw [List.map_cons, if_pos e, fd_pos (p := (p.1, d)) e]; rfl
      · rw [List.map_cons, if_neg e, fd_neg e]
        refine ih ?_
        rw [List.any_cons, decide_eq_false e, Bool.false_or] at c
        exact c
  · rename_i c
    rw [List.find?_append]
    have : kvs.find? (fun p => decide (p.1 = k)) = none := by
      rw [List.find?_eq_none]
      intro p hp e
      exact c (List.any_eq_true.mpr ⟨p, hp, e⟩)
    rw [this]
    simp
theorem look_put_ne {κ : Type} [DecidableEq κ] (kvs : List (κ × PyData)) (k j : κ) (d : PyData) (h : j ≠ k) : lookK (putD kvs k d) j = lookK kvs j := by
  unfold lookK putD
  split
  · induction kvs with
    | nil => rfl
    | cons p r ih =>
      rw [List.map_cons]
      by_cases e : p.1 = k
      · rw [if_pos e, fd_neg (p := (p.1, d)) (fun z => h (z.symm.trans e)), fd_neg (fun z => h (z.symm.trans e))]
        by_cases c : (r.any fun p => decide (p.1 = k)) = true
        · exact ih c
        · have : (r.map fun p => if p.1 = k then (p.1, d) else p) = r := by
            conv => rhs; rw [← List.map_id r]
            refine List.map_congr_left fun q hq => ?_
            rw [if_neg fun z => c (List.any_eq_true.mpr ⟨q, hq, decide_eq_true z⟩)]
            rfl
          rw [this]
      · rw [if_neg e]
        by_cases z : p.1 = j
        · rw [fd_pos z, fd_pos z]
        · rw [fd_neg z, fd_neg z]
          rename_i c
          rw [List.any_cons, decide_eq_false e, Bool.false_or] at c
          exact ih c
  · rw [List.find?_append]
    cases (kvs.find? fun p => decide (p.1 = j)) with
    | none => simp [Ne.symm h]
    | some p => rfl
theorem put_len {κ : Type} [DecidableEq κ] (kvs : List (κ × PyData)) (k : κ) (d : PyData) : (putD kvs k d).length ≤ kvs.length + 1 := by
  unfold putD
  split
  · rw [List.length_map]; omega
  · rw [List.length_append, List.length_singleton]; omega
/-! sets of answers -/
def IsMx (l : List Int) (v : Int) : Prop := v ∈ l ∧ ∀ u ∈ l, u ≤ v
theorem IsMx.uniq {l : List Int} {v u : Int} (a : IsMx l v) (b : IsMx l u) : v = u := by
  have := a.2 _ b.1
  have := b.2 _ a.1
  omega
theorem mx_max (x : Int) (xs : List Int) : IsMx (x :: xs) (PySem.W.maxOf x xs) := ⟨maxOf_mem x xs, maxOf_int x xs⟩
/-! in order, by a key -/
theorem ixN_nat {n i : Nat} (h : i < n) : ixN n (i : Int) = some i := by
  unfold ixN
  rw [if_pos (by omega), if_pos (by omega)]
  rfl
theorem range0 (n : Nat) : rangeD 0 n = (List.range n).map fun i => PyData.int (i : Nat) := by
  unfold rangeD
  refine List.map_congr_left fun i _ => ?_
  rw [Int.zero_add]
/-- pairs of numbers, in order -/
def pairD (f : Nat → Int) (i : Nat) : PyData := .tuple [.int (f i), .int (i : Nat)]
theorem side_pairs (f : Nat → Int) (l : List Nat) : PyData.plainAll (l.map (pairD f)) = true ∧ (∀ d ∈ l.map (pairD f), d.depth ≤ 30) ∧ PySem.W.AllAlike (l.map (pairD f)) ∧ PySem.W.Sortable (l.map (pairD f)) := by
  refine ⟨?_, fun d hd => ?_, PySem.W.AllAlike.of (enc := pairD f) fun _ _ => rfl, PySem.W.Sortable.tuples (enc := pairD f) fun b => ⟨_, _, rfl⟩⟩
  · induction l with
    | nil => rfl
    | cons i r ih =>
      show (PyData.plain (pairD f i) && PyData.plainAll (r.map (pairD f))) = true
      rw [ih]; rfl
  · obtain ⟨n, _, rfl⟩ := List.mem_map.mp hd
    exact (by decide : 1 ≤ 30)
/-- by a key: as the rows of key and place are sorted -/
def ordN (f : Nat → Int) (n : Nat) : List Nat := (List.range n).mergeSort fun i j => PySem.W.dataLe false id (pairD f i) (pairD f j)
theorem ordN_lt {f : Nat → Int} {n i : Nat} (h : i ∈ ordN f n) : i < n := by
  have := (List.mergeSort_perm _ _).mem_iff.mp h
  rwa [List.mem_range] at this
theorem ord_pairs (f : Nat → Int) (n : Nat) : ((List.range n).map (pairD f)).mergeSort (PySem.W.dataLe false id) = (ordN f n).map (pairD f) := by
  refine (List.map_mergeSort (f := pairD f) fun _ _ _ _ => ?_).symm
  rfl
theorem ord_key (f : Nat → Int) (n : Nat) (k : PyData → PyData) (hk : ∀ i < n, k (.int (i : Nat)) = pairD f i) : (rangeD 0 n).mergeSort (PySem.W.dataLe false k) = (ordN f n).map fun i => PyData.int (i : Nat) := by
  rw [range0]
  refine (List.map_mergeSort fun a ha b hb => ?_).symm
  rw [List.mem_range] at ha hb
  show PySem.W.dataLe false id (pairD f a) (pairD f b) = PySem.W.dataLe false k _ _
  show (!PySem.W.dataLt (pairD f b) (pairD f a)) = !PySem.W.dataLt (k (.int (b : Nat))) (k (.int (a : Nat)))
  rw [hk a ha, hk b hb]
theorem for_rng {g : GD} {b : SW} {D : PEn} (n : Nat) (Inv : Nat → En → Prop)
    (hs : ∀ i ρ (N : En → Prop), (∀ ρ', Inv (i + 1) ρ' → N ρ') → i < n → Inv i ρ → g (.int (i : Nat)) ρ fun ρ2 => b ρ2 { D with nx := N, ct := N, bk := D.nx }) (hd : ∀ ρ, Inv n ρ → D.nx ρ) (ρ : En) (h : Inv 0 ρ) : goFor g b D (rangeD 0 n) ρ :=
  for_range 0 n Inv (fun i ρ N hN hi hI => by rw [Int.zero_add]; exact hs i ρ N hN hi hI) hd ρ h
theorem IsMx.app {l m : List Int} {v u : Int} (a : IsMx l v) (b : IsMx m u) : IsMx (l ++ m) (if u > v then u else v) := by
  refine ⟨?_, fun w hw => ?_⟩
  · split
    · exact List.mem_append_right _ b.1
    · exact List.mem_append_left _ a.1
  · rcases List.mem_append.mp hw with h | h
    · have := a.2 w h
      split <;> omega
    · have := b.2 w h
      split <;> omega
theorem range_zip {α : Type} (gs : List α) : rangeD 0 gs.length = gs.zipIdx.map fun p => PyData.int (p.2 : Nat) := by
  rw [range0]
  have : List.range gs.length = gs.zipIdx.map (·.2) := by
    refine List.ext_getElem (by simp) fun i h1 h2 => ?_
    simp
  rw [this, List.map_map]
  rfl
/-- [e for x in xs], what is known of each -/
theorem lc_some {α : Type} {enco : α → PyData} {g : GD} {we : PW} {ρ : En} {Q : List PyData → Prop} (P : α → Prop) : ∀ (ds : List PyData) (acc : List α),
    (∀ d ∈ ds, ∀ Y : PyData → Prop, (∀ y, P y → Y (enco y)) → g d ρ fun ρ2 => we ρ2 Y (fun _ => False)) → (∀ y ∈ acc, P y) → acc.length + ds.length ≤ 100000 →
    (∀ ys : List α, ys.length = acc.length + ds.length → (∀ y ∈ ys, P y) → Q (ys.map enco)) → goLc g wYes we ρ ds (acc.map enco) Q
  | [], acc, h, ha, hl, hQ => hQ acc rfl ha
  | d :: ds, acc, h, ha, hl, hQ => by
    rw [List.length_cons] at hl
    have := h d List.mem_cons_self (fun y => (acc.map enco).length < sizeLine ∧ goLc g wYes we ρ ds (acc.map enco ++ [y]) Q) fun y hy => by
      refine ⟨lt_size (by rw [List.length_map]; omega), ?_⟩
      have := lc_some P ds (acc ++ [y]) (g := g) (we := we) (ρ := ρ) (enco := enco) (Q := Q) (fun d hd => h d (List.mem_cons_of_mem _ hd)) (fun z hz => by
        rcases List.mem_append.mp hz with hz | hz
        · exact ha z hz
        · rw [List.mem_singleton.mp hz]; exact hy) (by rw [List.length_append, List.length_singleton]; omega) fun ys hl2 hy2 => hQ ys (by rw [hl2, List.length_append, List.length_singleton, List.length_cons]; omega) hy2
      rwa [List.map_append] at this
    exact this
/-! what is walked stands in a slot -/
theorem itE {i : Nat} {ρ : En} {xs : List PyData} {F : List PyData → Prop} {E : Exn → Prop} (h : ρ[i]? = some (.sh (.list xs))) (hF : F (enumD xs)) : wItE (wVar i) ρ F E := by
  unfold wItE wVar
  rw [h]
  exact hF
theorem itL {i : Nat} {ρ : En} {xs : List PyData} {F : List PyData → Prop} {E : Exn → Prop} (h : ρ[i]? = some (.sh (.list xs))) (hF : F xs) : wItL (wVar i) ρ F E := by
  unfold wItL wVar
  rw [h]
  exact hF
theorem itT {i : Nat} {ρ : En} {xs : List PyData} {F : List PyData → Prop} {E : Exn → Prop} (h : ρ[i]? = some (.sh (.tuple xs))) (hF : F xs) : wItT (wVar i) ρ F E := by
  unfold wItT wVar
  rw [h]
  exact hF
end U
set_option Elab.async false
set_option linter.all false
set_option maxRecDepth 100000
set_option maxHeartbeats 1000000
/-! floors of squares: the plain part -/
namespace SG
open PySem PySem.Spec PyProof.Rows L2 PL
open PySem.W (Datum DatumOrd Tup)
abbrev Pt := Int × Int
def pD (p : Pt) : PyData := .tuple [.int p.1, .int p.2]
theorem pD_toD (p : Pt) : pD p = Datum.toD p := rfl
abbrev FRow := List Bool
def sgS (b : Bool) : Str := ⟨#[if b then 46 else 35]⟩
def sgD (b : Bool) : PyData := .str (sgS b)
def rowS (r : FRow) : Str := ⟨(r.map fun b => if b then 46 else 35).toArray⟩
def rowD (r : FRow) : PyData := .str (rowS r)
def flD (rows : List FRow) : PyData := .tuple (rows.map rowD)
theorem dot_is : ("." : Str) = sgS true := by decide
theorem wall_is : ("#" : Str) = sgS false := by decide
theorem signs_row (r : FRow) : signsD (rowS r) = r.map sgD := by
  unfold signsD rowS sgD sgS
  simp
theorem row_len (r : FRow) : (rowS r).length = r.length := by
  show ((r.map fun b => if b then 46 else 35).toArray).size = _
  simp
def sq (rows : List FRow) (p : Pt) : Bool := ((rows[p.1.toNat]?.getD [])[p.2.toNat]?).getD false
def freeRow (y : Nat) (r : FRow) : List Pt := r.zipIdx.filterMap fun p => if p.1 then some ((y : Int), (p.2 : Int)) else none
def freeL (rows : List FRow) : List Pt := rows.zipIdx.flatMap fun p => freeRow p.2 p.1
def rangeI (lo hi : Int) : List Int := (List.range (hi - lo).toNat).map fun i => lo + (i : Nat)
theorem rangeD_I (lo hi : Int) : rangeD lo (hi - lo).toNat = (rangeI lo hi).map .int := by
  unfold rangeD rangeI
  rw [List.map_map]; rfl
theorem mem_rangeI {lo hi x : Int} : x ∈ rangeI lo hi ↔ lo ≤ x ∧ x < hi := by
  unfold rangeI
  rw [List.mem_map]
  constructor
  · rintro ⟨i, hi', rfl⟩
    rw [List.mem_range] at hi'
    omega
  · intro h
    exact ⟨(x - lo).toNat, by rw [List.mem_range]; omega, by omega⟩
def cor (y x t w dy dx : Int) : Int := (2 * y + dy) * w - (2 * x + dx) * t
def tg (y x t w : Int) : Bool := decide (PySem.W.minOf (cor y x t w (-1) (-1)) [cor y x t w (-1) 1, cor y x t w 1 (-1), cor y x t w 1 1] < 0) && decide (0 < PySem.W.maxOf (cor y x t w (-1) (-1)) [cor y x t w (-1) 1, cor y x t w 1 (-1), cor y x t w 1 1])
def thr (o e : Pt) (p : Pt) : Bool := !(decide (o = p) || decide (e = p)) && tg (p.1 - o.1) (p.2 - o.2) (e.1 - o.1) (e.2 - o.2)
def betw (o e : Pt) : List Pt := (rangeI (min o.1 e.1) (max o.1 e.1 + 1)).flatMap fun y => ((rangeI (min o.2 e.2) (max o.2 e.2 + 1)).map fun x => (y, x)).filter (thr o e)
theorem mem_betw {o e p : Pt} : p ∈ betw o e ↔ (min o.1 e.1 ≤ p.1 ∧ p.1 ≤ max o.1 e.1) ∧ (min o.2 e.2 ≤ p.2 ∧ p.2 ≤ max o.2 e.2) ∧ thr o e p = true := by
  unfold betw
  rw [List.mem_flatMap]
  constructor
  · rintro ⟨y, hy, h⟩
    rw [List.mem_filter, List.mem_map] at h
    obtain ⟨⟨x, hx, rfl⟩, h⟩ := h
    rw [mem_rangeI] at hy hx
    exact ⟨by simp only; omega, by simp only; omega, h⟩
  · rintro ⟨h1, h2, h3⟩
    refine ⟨p.1, by rw [mem_rangeI]; omega, ?_⟩
    rw [List.mem_filter, List.mem_map]
    exact ⟨⟨p.2, by rw [mem_rangeI]; omega, rfl⟩, h3⟩
def seesB (rows : List FRow) (o e : Pt) : Bool := (betw o e).all (sq rows)
/-! list comprehensions of two clauses -/
theorem lc2_go {α β γ : Type} {enc : β → PyData} {enc1 : γ → PyData} {enco : α → PyData} {g g1 : GD} {wt wt1 : PWB} {wi1 : PWs} {we : PW} {vs1 : List Nat} {ρ : En} {Q : List PyData → Prop} (r2 : β → En) (ys : β → List γ) (f : β → γ → Option α) : ∀ (xs : List β) (acc : List α),
    (∀ x ∈ xs, ((∀ Z : En → Prop, Z (r2 x) → g (enc x) ρ Z) ∧ (∀ Z : Bool → Prop, Z true → wt (r2 x) Z (fun _ => False)) ∧ (∀ Z : List PyData → Prop, Z ((ys x).map enc1) → wi1 (r2 x) Z (fun _ => False)) ∧
      ∀ y ∈ ys x, ∀ (Y : PyData → Prop) (N : Prop), (∀ z, f x y = some z → Y (enco z)) → (f x y = none → N) → g1 (enc1 y) (wipeE (r2 x) vs1) fun ρ3 => wt1 ρ3 (fun k => if k = true then we ρ3 Y (fun _ => False) else N) (fun _ => False))) →
    acc.length + (xs.map fun x => (ys x).length).sum ≤ 100000 → Q ((acc ++ xs.flatMap fun x => (ys x).filterMap (f x)).map enco) → goLc2 g wt wi1 g1 wt1 we vs1 ρ (xs.map enc) (acc.map enco) Q
  | [], acc, h, hl, hQ => by
    rw [List.flatMap_nil, List.append_nil] at hQ
    exact hQ
  | x :: xs, acc, h, hl, hQ => by
    rw [List.map_cons, List.sum_cons] at hl
    obtain ⟨h1, h2, h3, h4⟩ := h x List.mem_cons_self
    refine h1 _ (h2 _ ?_)
    rw [if_pos rfl]
    refine h3 _ ?_
    refine U.lc_go (enc := enc1) (enco := enco) (f x) (ys x) acc h4 (by omega) ?_
    have hfl : ((ys x).filterMap (f x)).length ≤ (ys x).length := List.length_filterMap_le _ _
    refine lc2_go r2 ys f xs (acc ++ (ys x).filterMap (f x)) (fun z hz => h z (List.mem_cons_of_mem _ hz)) (by rw [List.length_append]; omega) ?_
    rw [List.flatMap_cons] at hQ
    rwa [List.append_assoc]
/-! a floor's rows -/
structure Rect (rows : List FRow) (w : Nat) : Prop where
  len : ∀ r ∈ rows, r.length = w
  tall : rows.length ≤ 20
  wide : w ≤ 20
  pos : 0 < rows.length
  wpos : 0 < w
def Ins (rows : List FRow) (w : Nat) (p : Pt) : Prop := (0 ≤ p.1 ∧ p.1 < rows.length) ∧ 0 ≤ p.2 ∧ p.2 < w
theorem ix_sq {rows : List FRow} {w : Nat} {p : Pt} (R : Rect rows w) (h : Ins rows w p) {Y : PyData → Prop} (hY : Y (sgD (sq rows p))) : fIx (flD rows) (.int p.1) fun x => fIx x (.int p.2) Y := by
  obtain ⟨⟨h1, h2⟩, h3, h4⟩ := h
  obtain ⟨y, ey⟩ : ∃ y : Nat, p.1 = y := ⟨p.1.toNat, by omega⟩
  obtain ⟨x, ex⟩ : ∃ x : Nat, p.2 = x := ⟨p.2.toNat, by omega⟩
  rw [ey] at h2
  rw [ex] at h4
  have hy : y < rows.length := by omega
  have hl := R.len rows[y] (List.getElem_mem hy)
  have hx : x < (rows[y]).length := by omega
  unfold flD
  show match atI (rows.map rowD) p.1 with | some d => fIx d (.int p.2) Y | none => False
  rw [ey, U.at_nat, List.getElem?_map, List.getElem?_eq_getElem hy]
  show (rowS rows[y]).length ≤ sizeLine ∧ match atI (rowS rows[y]).cps.toList p.2 with | some c => Y (.str ⟨#[c]⟩) | none => False
  refine ⟨U.le_size (by rw [row_len]; have := R.wide; omega), ?_⟩
  rw [ex, U.at_nat]
  unfold rowS
  rw [List.getElem?_map, List.getElem?_eq_getElem hx]
  unfold sgD sgS sq at hY
  rw [ey, ex] at hY
  simp only [Int.toNat_natCast, List.getElem?_eq_getElem hy, Option.getD_some, List.getElem?_eq_getElem hx] at hY
  exact hY
theorem eq_dot (b : Bool) : PyData.eqv (sgD b) (.str ".") = b := by
  show PyData.eqv (.str (sgS b)) (.str ".") = b
  rw [U.eqv_str]
  cases b <;> decide
theorem betw_in {rows : List FRow} {w : Nat} {o e p : Pt} (ho : Ins rows w o) (he : Ins rows w e) (h : p ∈ betw o e) : Ins rows w p := by
  rw [mem_betw] at h
  obtain ⟨⟨h1, h2⟩, ⟨h3, h4⟩, _⟩ := h
  obtain ⟨⟨a1, a2⟩, a3, a4⟩ := ho
  obtain ⟨⟨b1, b2⟩, b3, b4⟩ := he
  exact ⟨⟨by omega, by omega⟩, by omega, by omega⟩
theorem sign_ok (b : Bool) : (!(Builtin.Str.occurrences (".#" : Str) (sgS b) 0 (".#" : Str).length 1).isEmpty) = true := by cases b <;> decide +kernel
theorem mem_freeRow {y : Nat} {r : FRow} {p : Pt} : p ∈ freeRow y r ↔ ∃ x : Nat, r[x]? = some true ∧ p = ((y : Int), (x : Int)) := by
  unfold freeRow
  rw [List.mem_filterMap]
  constructor
  · rintro ⟨⟨b, x⟩, hm, h⟩
    rw [List.mem_zipIdx_iff_getElem?] at hm
    cases b with
    | false => simp at h
    | true => exact ⟨x, hm, by simpa using h.symm⟩
  · rintro ⟨x, h, rfl⟩
    exact ⟨(true, x), by rw [List.mem_zipIdx_iff_getElem?]; exact h, by simp⟩
theorem mem_freeL {rows : List FRow} {p : Pt} : p ∈ freeL rows ↔ ∃ (y x : Nat) (r : FRow), rows[y]? = some r ∧ r[x]? = some true ∧ p = ((y : Int), (x : Int)) := by
  unfold freeL
  rw [List.mem_flatMap]
  constructor
  · rintro ⟨⟨r, y⟩, hm, h⟩
    rw [List.mem_zipIdx_iff_getElem?] at hm
    obtain ⟨x, h1, h2⟩ := mem_freeRow.mp h
    exact ⟨y, x, r, hm, h1, h2⟩
  · rintro ⟨y, x, r, h1, h2, h3⟩
    exact ⟨(r, y), by rw [List.mem_zipIdx_iff_getElem?]; exact h1, mem_freeRow.mpr ⟨x, h2, h3⟩⟩
theorem free_in {rows : List FRow} {w : Nat} (R : Rect rows w) {p : Pt} (h : p ∈ freeL rows) : Ins rows w p ∧ sq rows p = true := by
  obtain ⟨y, x, r, h1, h2, rfl⟩ := mem_freeL.mp h
  have hy := (List.getElem?_eq_some_iff.mp h1).1
  have hx := (List.getElem?_eq_some_iff.mp h2).1
  have hr := R.len r (List.mem_of_getElem? h1)
  refine ⟨⟨⟨by omega, by omega⟩, by omega, by omega⟩, ?_⟩
  unfold sq
  simp only [Int.toNat_natCast, h1, h2, Option.getD_some]
theorem freeRow_len (y : Nat) (r : FRow) : (freeRow y r).length ≤ r.length := by
  unfold freeRow
  refine Nat.le_trans (List.length_filterMap_le _ _) ?_
  rw [List.length_zipIdx]
  exact Nat.le_refl _
theorem free_len {rows : List FRow} {w : Nat} (R : Rect rows w) : (freeL rows).length ≤ rows.length * w := by
  unfold freeL
  have key : ∀ (l : List (FRow × Nat)), (∀ p ∈ l, p.1.length = w) → (l.flatMap fun p => freeRow p.2 p.1).length ≤ l.length * w := by
    intro l
    induction l with
    | nil => intro _; simp
    | cons p t ih =>
      intro h
      rw [List.flatMap_cons, List.length_append, List.length_cons, Nat.succ_mul]
      have h1 := freeRow_len p.2 p.1
      have h2 := h p List.mem_cons_self
      have h3 := ih fun q hq => h q (List.mem_cons_of_mem _ hq)
      omega
  have := key rows.zipIdx fun p hp => R.len p.1 (by
    obtain ⟨r, i⟩ := p
    rw [List.mem_zipIdx_iff_getElem?] at hp
    exact List.mem_of_getElem? hp)
  rwa [List.length_zipIdx] at this
end SG
set_option Elab.async false
set_option linter.all false
set_option maxRecDepth 100000
set_option maxHeartbeats 1000000
namespace S14
open PySem PySem.Spec PyProof.Rows L2 PL SG KSet
open PySem.W (Datum DatumOrd Tup)
def tS (b : Bool) : Str := if b then "x" else "y"
theorem tS_eq (a b : Bool) : (tS a = tS b) ↔ a = b := by
  cases a <;> cases b <;> decide
structure Ln where
  t : Bool
  f : Int
  u : Int
def lnD (l : Ln) : PyData := .tuple [.str (tS l.t), .int l.f, .int l.u]
def Ok (ls : List Ln) : Prop := ∀ l ∈ ls, 0 ≤ l.f ∧ l.f < l.u ∧ l.u ≤ 13
def ln0 : Ln := ⟨true, 0, 1⟩
def atL (ls : List Ln) (k : Nat) : Ln := ls.getD k ln0
theorem atL_of {ls : List Ln} {k : Nat} {l : Ln} (h : ls[k]? = some l) : atL ls k = l := by rw [atL, List.getD, h]; rfl
theorem atL_get {ls : List Ln} {k : Nat} (h : k < ls.length) : ls[k]? = some (atL ls k) := by
  rw [atL, List.getD, List.getElem?_eq_getElem h]; rfl
def clB (l m : Ln) : Bool := decide (l.t = m.t) && (decide (l.f < m.u) && decide (m.f < l.u))
theorem clB_symm (l m : Ln) : clB l m = clB m l := by
  unfold clB
  rw [Bool.and_comm (decide (l.f < m.u)), show decide (l.t = m.t) = decide (m.t = l.t) from by cases l.t <;> cases m.t <;> rfl]
def pI (p : Nat × Nat) : Int × Int := ((p.1 : Int), (p.2 : Int))
def pN (p : Nat × Nat) : PyData := Datum.toD (pI p)
/-- pairs that clash, below n -/
def clK (ls : List Ln) (k : Nat) : List (Nat × Nat) := ((List.range k).filter fun j => clB (atL ls k) (atL ls j)).map fun j => (j, k)
def clP (ls : List Ln) (n : Nat) : List (Nat × Nat) := (List.range n).flatMap (clK ls)
theorem clP_succ (ls : List Ln) (n : Nat) : clP ls (n + 1) = clP ls n ++ clK ls n := by
  unfold clP
  rw [List.range_succ, List.flatMap_append, List.flatMap_singleton]
theorem mem_clP {ls : List Ln} {n : Nat} {p : Nat × Nat} : p ∈ clP ls n ↔ p.1 < p.2 ∧ p.2 < n ∧ clB (atL ls p.2) (atL ls p.1) = true := by
  unfold clP clK
  simp only [List.mem_flatMap, List.mem_range, List.mem_map, List.mem_filter]
  constructor
  · rintro ⟨k, hk, j, ⟨hj, hc⟩, rfl⟩
    exact ⟨hj, hk, hc⟩
  · rintro ⟨h1, h2, h3⟩
    exact ⟨p.2, h2, p.1, ⟨h1, h3⟩, rfl⟩
theorem clK_len (ls : List Ln) (k : Nat) : (clK ls k).length ≤ k := by
  unfold clK
  rw [List.length_map]
  refine Nat.le_trans (List.length_filter_le _ _) ?_
  rw [List.length_range]; exact Nat.le_refl _
theorem clP_len (ls : List Ln) : ∀ n, (clP ls n).length ≤ n * n
  | 0 => Nat.le_refl _
  | n + 1 => by
    have := clP_len ls n
    have := clK_len ls n
    rw [clP_succ, List.length_append, show (n + 1) * (n + 1) = n * n + n + (n + 1) from by rw [Nat.add_mul, Nat.mul_add]; omega]
    omega
/-! sorting -/
theorem side_ii {γ : Type} (f : γ → Int × Int) (l : List γ) : PyData.plainAll (l.map fun c => Datum.toD (f c)) = true ∧ (∀ d ∈ l.map (fun c => Datum.toD (f c)), d.depth ≤ 30) ∧ PySem.W.AllAlike (l.map fun c => Datum.toD (f c)) ∧ PySem.W.Sortable (l.map fun c => Datum.toD (f c)) := by
  refine ⟨?_, fun d hd => ?_, PySem.W.AllAlike.of (enc := fun c => Datum.toD (f c)) fun _ _ => rfl, PySem.W.Sortable.tuples (enc := fun c => Datum.toD (f c)) fun b => ⟨_, _, rfl⟩⟩
  · induction l with
    | nil => rfl
    | cons i r ih =>
      show (PyData.plain (Datum.toD (f i)) && PyData.plainAll (r.map fun c => Datum.toD (f c))) = true
      rw [ih]; rfl
  · obtain ⟨n, _, rfl⟩ := List.mem_map.mp hd
    exact (by decide : 1 ≤ 30)
def srtP (l : List (Nat × Nat)) : List (Nat × Nat) := l.mergeSort fun a b => PySem.W.dataLe false id (pN a) (pN b)
theorem srtP_eq (l : List (Nat × Nat)) : (l.map pN).mergeSort (PySem.W.dataLe false id) = (srtP l).map pN := (List.map_mergeSort (f := pN) fun _ _ _ _ => rfl).symm
/-! days -/
def dayL (l : Ln) : List (Str × Int) := (rangeI l.f l.u).map fun d => (tS l.t, d)
def dD (p : Str × Int) : PyData := Datum.toD p
theorem mem_dayL {l : Ln} {t : Bool} {d : Int} : (tS t, d) ∈ dayL l ↔ t = l.t ∧ l.f ≤ d ∧ d < l.u := by
  unfold dayL
  rw [List.mem_map]
  constructor
  · rintro ⟨e, he, h⟩
    rw [mem_rangeI] at he
    obtain ⟨h1, h2⟩ := Prod.mk.inj h
    subst h2
    exact ⟨((tS_eq _ _).mp h1).symm, he⟩
  · rintro ⟨rfl, h1, h2⟩
    exact ⟨d, mem_rangeI.mpr ⟨h1, h2⟩, rfl⟩
theorem any_mem {l : List (Str × Int)} (p : Str × Int) : ((l.map dD).any fun z => PyData.eqv z (dD p)) = decide (p ∈ l) := by
  rw [List.any_map]
  have e : ((fun z => PyData.eqv z (dD p)) ∘ dD) = fun q => decide (q = p) := by
    funext q
    exact Datum.eqv q p
  rw [e]
  cases c : decide (p ∈ l) with
  | true => exact List.any_eq_true.mpr ⟨p, of_decide_eq_true c, decide_eq_true rfl⟩
  | false =>
    rw [List.any_eq_false]
    intro q hq
    rw [decide_eq_true_eq]
    rintro rfl
    exact of_decide_eq_false c hq
theorem common {l m : Ln} (hl : l.f < l.u) (hm : m.f < m.u) : ((dayL l).filter fun p => decide (p ∈ dayL m)) ≠ [] ↔ clB m l = true := by
  unfold clB
  simp only [Bool.and_eq_true, decide_eq_true_eq]
  rw [Ne, List.filter_eq_nil_iff]
  constructor
  · intro h
    by_cases e : m.t = l.t ∧ m.f < l.u ∧ l.f < m.u
    · exact e
    · exfalso
      apply h
      intro p hp
      unfold dayL at hp
      obtain ⟨d, hd, rfl⟩ := List.mem_map.mp hp
      rw [mem_rangeI] at hd
      rw [decide_eq_true_eq, mem_dayL]
      rintro ⟨h1, h2, h3⟩
      exact e ⟨h1.symm, by omega, by omega⟩
  · rintro ⟨h1, h2, h3⟩ h
    by_cases c : l.f ≤ m.f
    · exact h (tS l.t, m.f) (mem_dayL.mpr ⟨rfl, c, h2⟩) (decide_eq_true (mem_dayL.mpr ⟨h1.symm, Int.le_refl _, hm⟩))
    · exact h (tS l.t, l.f) (mem_dayL.mpr ⟨rfl, Int.le_refl _, hl⟩) (decide_eq_true (mem_dayL.mpr ⟨h1.symm, by omega, h3⟩))
/-! what is away -/
def onB (ls : List Ln) (day : Int) (t : Bool) : Bool := ls.any fun l => decide (l.t = t) && (decide (l.f ≤ day) && decide (day < l.u))
def gone (ls : List Ln) (day : Int) : List Bool := [true, false].filter (onB ls day)
theorem mem_gone {ls : List Ln} {day : Int} {t : Bool} : t ∈ gone ls day ↔ ∃ l ∈ ls, l.t = t ∧ l.f ≤ day ∧ day < l.u := by
  unfold gone onB
  rw [List.mem_filter, List.any_eq_true]
  simp only [Bool.and_eq_true, decide_eq_true_eq]
  exact ⟨fun h => h.2, fun h => ⟨by cases t <;> simp, h⟩⟩
/-! sets of keys -/
theorem mem_addK {ks : List Key} {k j : Key} : j ∈ addK ks k ↔ j ∈ ks ∨ j = k := by
  by_cases h : k ∈ ks
  · rw [addK_in h]
    exact ⟨.inl, fun z => z.elim id fun e => by rw [e]; exact h⟩
  · rw [addK_out h, List.mem_append, List.mem_singleton]
theorem nodup_addK {ks : List Key} {k : Key} (n : ks.Nodup) : (addK ks k).Nodup := by
  by_cases h : k ∈ ks
  · rw [addK_in h]; exact n
  · rw [addK_out h, List.nodup_append]
    refine ⟨n, by simp, fun a ha b hb e => ?_⟩
    rw [List.mem_singleton] at hb
    subst hb; subst e
    exact h ha
theorem len_addK (ks : List Key) (k : Key) : (addK ks k).length ≤ ks.length + 1 := by
  by_cases h : k ∈ ks
  · rw [addK_in h]; omega
  · rw [addK_out h, List.length_append]; exact Nat.le_refl _
/-- {e for x in xs if t} -/
theorem sc_go {β : Type} {enc : β → PyData} {g : GD} {wt : PWB} {we : PW} {ρ : En} {Q : List Key → Prop} (f : β → Option Key) : ∀ (xs : List β) (acc : List Key),
    (∀ x ∈ xs, ∀ (Y : PyData → Prop) (N : Prop), (∀ k, f x = some k → Y (keyD k)) → (f x = none → N) → g (enc x) ρ fun ρ2 => wt ρ2 (fun k => if k = true then we ρ2 Y (fun _ => False) else N) (fun _ => False)) →
    acc.Nodup → acc.length + xs.length ≤ 1000 → (∀ ks : List Key, ks.Nodup → ks.length ≤ acc.length + xs.length → (∀ k, k ∈ ks ↔ k ∈ acc ∨ ∃ x ∈ xs, f x = some k) → Q ks) → goSc g wt we ρ (xs.map enc) acc Q
  | [], acc, h, hn, hl, hQ => hQ acc hn (Nat.le_add_right _ _) fun k => ⟨.inl, fun z => z.elim id fun ⟨x, hx, _⟩ => by cases hx⟩
  | x :: xs, acc, h, hn, hl, hQ => by
    rw [List.length_cons] at hl
    refine h x List.mem_cons_self _ _ (fun k hk => ⟨k, by cases k <;> rfl, by omega, ?_⟩) (fun hk => ?_)
    · have hla := len_addK acc k
      refine sc_go f xs (addK acc k) (fun z hz => h z (List.mem_cons_of_mem _ hz)) (nodup_addK hn) (by omega) fun ks n l m => hQ ks n (by rw [List.length_cons]; omega) fun j => ?_
      rw [m j, mem_addK]
      constructor
      · rintro ((h1 | rfl) | ⟨y, hy, e⟩)
        · exact .inl h1
        · exact .inr ⟨x, List.mem_cons_self, hk⟩
        · exact .inr ⟨y, List.mem_cons_of_mem _ hy, e⟩
      · rintro (h1 | ⟨y, hy, e⟩)
        · exact .inl (.inl h1)
        · rcases List.mem_cons.mp hy with rfl | hy
          · rw [hk] at e; cases e; exact .inl (.inr rfl)
          · exact .inr ⟨y, hy, e⟩
    · refine sc_go f xs acc (fun z hz => h z (List.mem_cons_of_mem _ hz)) hn (by omega) fun ks n l m => hQ ks n (by rw [List.length_cons]; omega) fun j => ?_
      rw [m j]
      constructor
      · rintro (h1 | ⟨y, hy, e⟩)
        · exact .inl h1
        · exact .inr ⟨y, List.mem_cons_of_mem _ hy, e⟩
      · rintro (h1 | ⟨y, hy, e⟩)
        · exact .inl h1
        · rcases List.mem_cons.mp hy with rfl | hy
          · rw [hk] at e; cases e
          · exact .inr ⟨y, hy, e⟩
def leB (a b : Bool) : Bool := a || !b
theorem sort_B {l : List Bool} (hn : l.Nodup) (p : Bool → Bool) (h : ∀ t, t ∈ l ↔ p t = true) : l.mergeSort leB = [true, false].filter p := by
  have h1 := List.pairwise_mergeSort (le := leB) (fun a b c => by cases a <;> cases b <;> cases c <;> decide) (fun a b => by cases a <;> cases b <;> decide) l
  have h2 : ([true, false].filter p).Pairwise (fun a b => leB a b = true) := List.Pairwise.filter p (by decide)
  refine List.Perm.eq_of_pairwise (fun a b _ _ => by cases a <;> cases b <;> decide) h1 h2 ((List.mergeSort_perm _ _).trans ?_)
  refine (List.perm_ext_iff_of_nodup hn (List.Pairwise.filter p (by decide))).mpr fun t => ?_
  rw [h, List.mem_filter]
  exact ⟨fun z => ⟨by cases t <;> simp, z⟩, fun z => z.2⟩
def kT (t : Bool) : Key := .inr (tS t)
/-- sorted of a set of things -/
theorem sort_things {ks bs : List Key} (hn : ks.Nodup) (p : Bool → Bool) (h : ∀ k, k ∈ ks ↔ ∃ t, p t = true ∧ kT t = k) (hb : bs.Perm ks) :
    (PySem.W.AllAlike (bs.map keyD) ∧ PySem.W.Sortable (bs.map keyD)) ∧ (bs.mergeSort (PySem.W.dataLe false keyD)).map keyD = ([true, false].filter p).map fun t => .str (tS t) := by
  have hbn : bs.Nodup := hb.nodup_iff.mpr hn
  obtain ⟨l, rfl⟩ : ∃ l : List Bool, bs = l.map kT := by
    have hm : ∀ k ∈ bs, ∃ t, kT t = k := fun k hk => by
      obtain ⟨t, _, e⟩ := (h k).mp (hb.mem_iff.mp hk)
      exact ⟨t, e⟩
    clear hb hbn h hn
    induction bs with
    | nil => exact ⟨[], rfl⟩
    | cons b r ih =>
      obtain ⟨l, rfl⟩ := ih fun k hk => hm k (List.mem_cons_of_mem _ hk)
      obtain ⟨t, rfl⟩ := hm b List.mem_cons_self
      exact ⟨t :: l, rfl⟩
  have inj : ∀ a b : Bool, kT a = kT b → a = b := fun a b e => (tS_eq a b).mp (Sum.inr.inj e)
  have hln : l.Nodup := by
    rw [List.Nodup, List.pairwise_map] at hbn
    exact hbn.imp fun h e => h (by rw [e])
  have hlm : ∀ t, t ∈ l ↔ p t = true := fun t => by
    have : kT t ∈ l.map kT ↔ t ∈ l := ⟨fun z => by obtain ⟨u, hu, e⟩ := List.mem_map.mp z; rw [← inj _ _ e]; exact hu, fun z => List.mem_map_of_mem z⟩
    rw [← this, hb.mem_iff, h]
    exact ⟨fun ⟨u, hu, e⟩ => by rw [← inj _ _ e]; exact hu, fun z => ⟨t, z, rfl⟩⟩
  refine ⟨⟨?_, ?_⟩, ?_⟩
  · rw [List.map_map]
    exact PySem.W.AllAlike.of (enc := keyD ∘ kT) fun _ _ => rfl
  · rw [List.map_map]
    exact PySem.W.Sortable.others (enc := keyD ∘ kT) fun b => ⟨fun e => (by cases e), fun _ e => (by cases e)⟩
  · have e : (l.map kT).mergeSort (PySem.W.dataLe false keyD) = (l.mergeSort leB).map kT := (List.map_mergeSort fun a _ b _ => by cases a <;> cases b <;> decide).symm
    rw [e, sort_B hln p hlm, List.map_map]
    rfl
end S14
set_option Elab.async false
set_option linter.all false
set_option maxRecDepth 100000
set_option maxHeartbeats 1000000
namespace M14
open PySem PySem.Spec PyProof.Rows L2 PL SG S14
open PySem.W (Datum DatumOrd Tup)

def v_check_loans_0 (a : Ad) : SW :=
 (sIf (wT (wGen PyData.bool (wItL (wVar 0)) (gTupD 3 (gConsD (gNameD 1) (gConsD (gNameD 2) (gConsD (gNameD 3) gNilD)))) wYes (wNotV (wCh (fC fun i j => decide (i ≤ j)) (fC fun i j => decide (i < j)) (wC (.int 0)) (wVar 2) (wVar 3))) [1, 2, 3] rAnyD)) (sRaise a.x_BadPlan) sNil)
theorem u_check_loans_parts (a : Ad) : u_check_loans a = (v_check_loans_0 a) := rfl

def v_clash_0 (a : Ad) : SW :=
 (sRet (wAndV (w2 (fEq false) (w2 fIx (wRd 0) (wC (.int 0))) (w2 fIx (wRd 1) (wC (.int 0)))) (wAndV (w2 (fC fun i j => decide (i < j)) (w2 fIx (wRd 0) (wC (.int 1))) (w2 fIx (wRd 1) (wC (.int 2)))) (w2 (fC fun i j => decide (i < j)) (w2 fIx (wRd 1) (wC (.int 1))) (w2 fIx (wRd 0) (wC (.int 2)))))))
theorem u_clash_parts (a : Ad) : u_clash a = (v_clash_0 a) := rfl
def g_clashes_1 : GD := (gTupD 2 (gConsD (gNameD 6) (gConsD (gTupD 3 (gConsD (gNameD 7) (gConsD (gNameD 8) (gConsD (gNameD 9) gNilD)))) gNilD)))
def b_clashes_1 (a : Ad) : SW :=
 (sIf (wAnd (wT (w2 (fEq false) (wRd 3) (wRd 7))) (wAnd (wT (w2 (fC fun i j => decide (i < j)) (wRd 4) (wRd 9))) (wT (w2 (fC fun i j => decide (i < j)) (wRd 8) (wRd 5))))) (sApp 1 (wTup (wCons (wVar 6) (wCons (wVar 2) wNil)))) sNil)
def g_clashes_0 : GD := (gTupD 2 (gConsD (gNameD 2) (gConsD (gTupD 3 (gConsD (gNameD 3) (gConsD (gNameD 4) (gConsD (gNameD 5) gNilD)))) gNilD)))
def b_clashes_0 (a : Ad) : SW :=
 (sFor (wItE (wSl fSlL (wRd 0) wNo (wSo (wVar 2)))) g_clashes_1 (b_clashes_1 a))
def v_clashes_0 (a : Ad) : SW :=
 (sEx (wCall 1 (c_check_loans a) (wpSh (wVar 0) wpNil)))
def v_clashes_1 (a : Ad) : SW :=
 (sOwn 1 (wLst wNil))
def v_clashes_2 (a : Ad) : SW :=
 (sFor (wItE (wVar 0)) g_clashes_0 (b_clashes_0 a))
def v_clashes_3 (a : Ad) : SW :=
 (sRet (w1 fTuple (w1 fSorted (wRd 1))))
theorem u_clashes_parts (a : Ad) : u_clashes a = (sSeq (v_clashes_0 a) (sSeq (v_clashes_1 a) (sSeq (v_clashes_2 a) (v_clashes_3 a)))) := rfl

def v_away_0 (a : Ad) : SW :=
 (sEx (wCall 1 (c_check_loans a) (wpSh (wVar 0) wpNil)))
def v_away_1 (a : Ad) : SW :=
 (sRet (w1 fTuple (wSortSc (wSc (wItL (wVar 0)) (gTupD 3 (gConsD (gNameD 2) (gConsD (gNameD 3) (gConsD (gNameD 4) gNilD)))) (wT (wCh (fC fun i j => decide (i ≤ j)) (fC fun i j => decide (i < j)) (wVar 3) (wVar 1) (wVar 4))) (wVar 2) [2, 3, 4]))))
theorem u_away_parts (a : Ad) : u_away a = (sSeq (v_away_0 a) (v_away_1 a)) := rfl
def g_most_away_0 : GD := (gNameD 3)
def b_most_away_0 (a : Ad) : SW :=
 (sSeq (sSet 4 (wGen PyData.int (wItT (wCall 2 (c_away a) (wpSh (wVar 0) (wpSh (wVar 3) wpNil)))) (gNameD 5) wYes (wDIx 1 (wVar 5)) [5] rSumD))
 (sIf (wT (w2 (fC fun i j => decide (j < i)) (wRd 4) (w2 fIx (wRd 2) (wC (.int 0))))) (sSet 2 (wTup (wCons (wVar 4) (wCons (wVar 3) wNil)))) sNil))
def v_most_away_0 (a : Ad) : SW :=
 (sSet 2 (wTup (wCons (wC (.int 0)) (wCons (wC (.int 0)) wNil))))
def v_most_away_1 (a : Ad) : SW :=
 (sFor (wItL (wSortSc (wSc (wItL (wVar 0)) (gTupD 3 (gConsD (gNameD 5) (gConsD (gNameD 6) (gConsD (gNameD 7) gNilD)))) wYes (wVar 6) [5, 6, 7]))) g_most_away_0 (b_most_away_0 a))
def v_most_away_2 (a : Ad) : SW :=
 (sRet (wVar 2))
theorem u_most_away_parts (a : Ad) : u_most_away a = (sSeq (v_most_away_0 a) (sSeq (v_most_away_1 a) (v_most_away_2 a))) := rfl
def g_best_loans_0 : GD := (gNameD 3)
def b_best_loans_0 (a : Ad) : SW :=
 (sSet 2 (w2 fCat (wRd 2) (wLc (wItL (wVar 2)) (gNameD 6) (wNot (wT (wGen PyData.bool (wItT (wVar 6)) (gNameD 7) wYes (wCall 2 (c_clash a) (wpSh (w2 fIx (wRd 0) (wRd 7)) (wpSh (w2 fIx (wRd 0) (wRd 3)) wpNil))) [7] rAnyD))) (w2 fAdd (wRd 6) (wTup (wCons (wVar 3) wNil))) [6])))
def v_best_loans_0 (a : Ad) : SW :=
 (sEx (wCall 1 (c_check_loans a) (wpSh (wVar 0) wpNil)))
def v_best_loans_1 (a : Ad) : SW :=
 (sIf (wT (wGen PyData.bool (wItL (wVar 1)) (gNameD 5) wYes (w2 (fC fun i j => decide (i < j)) (wRd 5) (wC (.int 1))) [5] rAnyD)) (sRaise a.x_BadPlan) sNil)
def v_best_loans_2 (a : Ad) : SW :=
 (sIf (wT (w2 (fC fun i j => decide (j < i)) (w1 fLen (wRd 0)) (wC (.int 12)))) (sRaise a.x_TooLarge) sNil)
def v_best_loans_3 (a : Ad) : SW :=
 (sSet 2 (wLst (wCons (wTup wNil) wNil)))
def v_best_loans_4 (a : Ad) : SW :=
 (sFor (wRng1 (wCons (w1 fLen (wRd 0)) wNil)) g_best_loans_0 (b_best_loans_0 a))
def v_best_loans_5 (a : Ad) : SW :=
 (sSet 4 (w1 fMin (wLc (wItL (wVar 2)) (gNameD 6) wYes (wTup (wCons (wNeg (wGen PyData.int (wItT (wVar 6)) (gNameD 3) wYes (w2 fIx (wRd 1) (wRd 3)) [3] rSumD)) (wCons (wVar 6) wNil))) [6])))
def v_best_loans_6 (a : Ad) : SW :=
 (sRet (wTup (wCons (wNeg (w2 fIx (wRd 4) (wC (.int 0)))) (wCons (w2 fIx (wRd 4) (wC (.int 1))) wNil))))
theorem u_best_loans_parts (a : Ad) : u_best_loans a = (sSeq (v_best_loans_0 a) (sSeq (v_best_loans_1 a) (sSeq (v_best_loans_2 a) (sSeq (v_best_loans_3 a) (sSeq (v_best_loans_4 a) (sSeq (v_best_loans_5 a) (v_best_loans_6 a))))))) := rfl
def g_borne_0 : GD := (gTupD 4 (gConsD (gNameD 3) (gConsD (gNameD 4) (gConsD (gNameD 5) (gConsD (gNameD 6) gNilD)))))
def b_borne_0 (a : Ad) : SW :=
 (sSeq (sIf (wOr (wNot (wT (wCh (fC fun i j => decide (i ≤ j)) (fC fun i j => decide (i < j)) (wC (.int 0)) (wVar 4) (wVar 5)))) (wNot (wT (wCh (fC fun i j => decide (i ≤ j)) (fC fun i j => decide (i < j)) (wC (.int 0)) (wVar 6) (w1 fLen (wRd 1)))))) (sRaise a.x_BadPlan) sNil)
 (sPut 2 (wVar 3) (w2 fAdd (wDGet 2 (wVar 3) (wC (.int 0))) (w2 fMul (w2 (fI CT fun i j => i - j) (wRd 5) (wRd 4)) (w2 fIx (wRd 1) (wRd 6))))))
def v_borne_0 (a : Ad) : SW :=
 (sDk 2)
def v_borne_1 (a : Ad) : SW :=
 (sFor (wItL (wVar 0)) g_borne_0 (b_borne_0 a))
def v_borne_2 (a : Ad) : SW :=
 (sRetP (wSortIt 2))
theorem u_borne_parts (a : Ad) : u_borne a = (sSeq (v_borne_0 a) (sSeq (v_borne_1 a) (v_borne_2 a))) := rfl

def v_days_left_0 (a : Ad) : SW :=
 (sIf (wNot (wT (wCh (fC fun i j => decide (i ≤ j)) (fC fun i j => decide (i < j)) (wC (.int 0)) (wVar 4) (w1 fLen (wRd 1))))) (sRaise a.x_BadPlan) sNil)
def v_days_left_1 (a : Ad) : SW :=
 (sSet 5 (wVGet (wDictP (wCall 2 (c_borne a) (wpSh (wVar 0) (wpSh (wVar 1) wpNil)))) (wVar 2) (wC (.int 0))))
def v_days_left_2 (a : Ad) : SW :=
 (sIf (wT (w2 (fC fun i j => decide (j < i)) (wRd 5) (wRd 3))) (sRaise a.x_NoWay) sNil)
def v_days_left_3 (a : Ad) : SW :=
 (sRet (wIf (wT (w2 (fEq false) (w2 fIx (wRd 1) (wRd 4)) (wC (.int 0)))) (wC .none) (w2 (fI CDiv fun i j => i / j) (w2 (fI CT fun i j => i - j) (wRd 3) (wRd 5)) (w2 fIx (wRd 1) (wRd 4)))))
theorem u_days_left_parts (a : Ad) : u_days_left a = (sSeq (v_days_left_0 a) (sSeq (v_days_left_1 a) (sSeq (v_days_left_2 a) (v_days_left_3 a)))) := rfl

def v_by_turns_0 (a : Ad) : SW :=
 (sIf (wOr (wT (w2 (fC fun i j => decide (j < i)) (wRd 1) (wRd 0))) (wT (w2 (fC fun i j => decide (i < j)) (wRd 1) (wC (.int 0))))) (sRaise a.x_BadPlan) sNil)
def v_by_turns_1 (a : Ad) : SW :=
 (sOwn 4 (wLc (wRng1 (wCons (wVar 2) wNil)) (gNameD 6) wYes (w1 fTuple (w1 fSorted (wLc (wRng1 (wCons (wVar 1) wNil)) (gNameD 5) wYes (w2 (fI (fun _ j => 0 < j) fun i j => i % j) (w2 fAdd (w2 fMul (wRd 6) (wRd 1)) (wRd 5)) (wRd 0)) [5]))) [6]))
def v_by_turns_2 (a : Ad) : SW :=
 (sIf (wAnd (wT (w2 (fC fun i j => decide (j < i)) (wRd 0) (wC (.int 0)))) (wT (w2 (fC fun i j => decide (j < i)) (wNeg (w2 (fI CDiv fun i j => i / j) (w2 fMul (wNeg (wVar 2)) (wRd 1)) (wRd 0))) (wRd 3)))) (sRaise a.x_NoWay) sNil)
def v_by_turns_3 (a : Ad) : SW :=
 (sRet (w1 fTuple (wRd 4)))
theorem u_by_turns_parts (a : Ad) : u_by_turns a = (sSeq (v_by_turns_0 a) (sSeq (v_by_turns_1 a) (sSeq (v_by_turns_2 a) (v_by_turns_3 a)))) := rfl
def g__law_light_0 : GD := (gNameD 3)
def b__law_light_0 (a : Ad) : SW :=
 (sSeq (sSet 4 (wCall 2 (c__law_roll a) (wpDc 0 (wpSh (wC (.int 9)) wpNil))))
 (sApp 1 (wTup (wCons (w2 fIx (wC (.str "xy")) (wCall 2 (c__law_roll a) (wpDc 0 (wpSh (wC (.int 2)) wpNil)))) (wCons (wVar 4) (wCons (w2 fAdd (w2 fAdd (wRd 4) (wC (.int 1))) (wCall 2 (c__law_roll a) (wpDc 0 (wpSh (wC (.int 5)) wpNil)))) (wCons (wCall 2 (c__law_roll a) (wpDc 0 (wpSh (wC (.int 2)) wpNil))) wNil)))))))
def g__law_light_1 : GD := (gNameD 6)
def b__law_light_1 (a : Ad) : SW :=
 (sFrz 1 (sSeq (sSet 7 (w1 fSum (wLc (wItL (wVar 1)) (gTupD 4 (gConsD (gNameD 17) (gConsD (gNameD 4) (gConsD (gNameD 18) (gConsD (gNameD 9) gNilD))))) (wT (w2 (fEq false) (wRd 17) (wRd 6))) (w2 fMul (w2 (fI CT fun i j => i - j) (wRd 18) (wRd 4)) (w2 fIx (wRd 2) (wRd 9))) [17, 4, 18, 9])))
 (sFrz 1 (sSet 5 (w2 fCat (wRd 5) (w2 fRep (wLst (wCons (wTup (wCons (wVar 6) (wCons (wVar 7) wNil))) wNil)) (w1 fInt (w2 (fEq true) (wLc (wItL (wVar 1)) (gNameD 19) (wT (w2 (fEq false) (w2 fIx (wRd 19) (wC (.int 0))) (wRd 6))) (wC (.int 1)) [19]) (wLst wNil)))))))))
def v__law_light_0 (a : Ad) : SW :=
 (sParN [1, 2] (wbOl (wLst wNil) (wpSh (wLst (wCons (wCall 2 (c__law_roll a) (wpDc 0 (wpSh (wC (.int 4)) wpNil))) (wCons (wCall 2 (c__law_roll a) (wpDc 0 (wpSh (wC (.int 4)) wpNil))) wNil))) wpNil)))
def v__law_light_1 (a : Ad) : SW :=
 (sFor (wRng1 (wCons (wCall 2 (c__law_roll a) (wpDc 0 (wpSh (wC (.int 6)) wpNil))) wNil)) g__law_light_0 (b__law_light_0 a))
def v__law_light_2 (a : Ad) : SW :=
 (sSet 5 (wLst wNil))
def v__law_light_3 (a : Ad) : SW :=
 (sFor (wItS (wC (.str "xy"))) g__law_light_1 (b__law_light_1 a))
def v__law_light_4 (a : Ad) : SW :=
 (sIf (wT (w2 (fEq true) (w1 fList (wCall 2 (c_borne a) (wpSh (wVar 1) (wpSh (wVar 2) wpNil)))) (wRd 5))) (sRet (wC (.bool false))) sNil)
def v__law_light_5 (a : Ad) : SW :=
 (sParN [8, 9, 10] (wpSh (wCall 2 (c__law_roll a) (wpDc 0 (wpSh (wC (.int 60)) wpNil))) (wpSh (wCall 2 (c__law_roll a) (wpDc 0 (wpSh (wC (.int 2)) wpNil))) (wpSh (wVGet (wDictP (wOnlyL (wRd 5))) (wC (.str "x")) (wC (.int 0))) wpNil))))
def v__law_light_6 (a : Ad) : SW :=
 (sSet 11 (wTold (hsT a) (wCall 5 (c_days_left a) (wpSh (wVar 1) (wpSh (wVar 2) (wpSh (wC (.str "x")) (wpSh (wVar 8) (wpSh (wVar 9) wpNil))))))))
def v__law_light_7 (a : Ad) : SW :=
 (sIf (wOr (wT (w2 (fEq true) (w2 (fEq false) (wRd 11) (wC (.str "no way"))) (w2 (fC fun i j => decide (j < i)) (wRd 10) (wRd 8)))) (wT (w2 (fEq true) (w2 fIsN (wRd 11) (wC .none)) (wAndV (w2 (fC fun i j => decide (i ≤ j)) (wRd 10) (wRd 8)) (w2 (fEq false) (w2 fIx (wRd 2) (wRd 9)) (wC (.int 0))))))) (sRet (wC (.bool false))) sNil)
def v__law_light_8 (a : Ad) : SW :=
 (sIf (wAnd (wT (w2 (fIn true) (wRd 11) (wLst (wCons (wC (.str "no way")) (wCons (wC .none) wNil))))) (wNot (wT (wCh (fC fun i j => decide (i ≤ j)) (fC fun i j => decide (i < j)) (w2 fAdd (wRd 10) (w2 fMul (wRd 11) (w2 fIx (wRd 2) (wRd 9)))) (wVar 8) (w2 fAdd (wRd 10) (w2 fMul (w2 fAdd (wRd 11) (wC (.int 1))) (w2 fIx (wRd 2) (wRd 9)))))))) (sRet (wC (.bool false))) sNil)
def v__law_light_9 (a : Ad) : SW :=
 (sParN [12, 13] (wpSh (w2 fAdd (wC (.int 1)) (wCall 2 (c__law_roll a) (wpDc 0 (wpSh (wC (.int 5)) wpNil)))) (wpSh (wCall 2 (c__law_roll a) (wpDc 0 (wpSh (wC (.int 9)) wpNil))) wpNil)))
def v__law_light_10 (a : Ad) : SW :=
 (sSet 14 (wCall 2 (c__law_roll a) (wpDc 0 (wpSh (w2 fAdd (wRd 12) (wC (.int 1))) wpNil))))
def v__law_light_11 (a : Ad) : SW :=
 (sSet 15 (wCall 4 (c_by_turns a) (wpSh (wVar 12) (wpSh (wVar 14) (wpSh (wVar 13) (wpSh (wC (.int 99)) wpNil))))))
def v__law_light_12 (a : Ad) : SW :=
 (sSet 16 (wLc (wRng1 (wCons (wVar 12) wNil)) (gNameD 17) wYes (w1 fLen (wLc (wItT (wVar 15)) (gNameD 20) (wT (w2 (fIn false) (wRd 17) (wRd 20))) (wC (.int 1)) [20])) [17]))
def v__law_light_13 (a : Ad) : SW :=
 (sIf (wOr (wT (w2 (fEq true) (w1 fLen (wRd 15)) (wRd 13))) (wT (w2 (fEq true) (wLc (wItT (wVar 15)) (gNameD 20) (wOr (wT (w2 (fEq true) (w1 fLen (wRd 20)) (wRd 14))) (wT (w2 (fEq true) (w1 fList (wRd 20)) (w1 fSortedT (wRd 20))))) (wVar 20) [20]) (wLst wNil)))) (sRet (wC (.bool false))) sNil)
def v__law_light_14 (a : Ad) : SW :=
 (sIf (wOr (wT (w2 (fEq true) (w1 fSum (wRd 16)) (w2 fMul (wRd 13) (wRd 14)))) (wT (w2 (fC fun i j => decide (j < i)) (w2 (fI CT fun i j => i - j) (w1 fMax (wRd 16)) (w1 fMin (wRd 16))) (wC (.int 1))))) (sRet (wC (.bool false))) sNil)
def v__law_light_15 (a : Ad) : SW :=
 (sIf (wAnd (wT (w2 (fC fun i j => decide (j < i)) (w1 fMax (wRd 16)) (wC (.int 0)))) (wT (w2 (fEq true) (wTold (hsT a) (wCall 4 (c_by_turns a) (wpSh (wVar 12) (wpSh (wVar 14) (wpSh (wVar 13) (wpSh (w2 (fI CT fun i j => i - j) (w1 fMax (wRd 16)) (wC (.int 1))) wpNil)))))) (wC (.str "no way"))))) (sRet (wC (.bool false))) sNil)
def v__law_light_16 (a : Ad) : SW :=
 (sIf (wT (w2 (fEq true) (wCall 4 (c_by_turns a) (wpSh (wVar 12) (wpSh (wVar 14) (wpSh (wVar 13) (wpSh (w1 fMax (wRd 16)) wpNil))))) (wRd 15))) (sRet (wC (.bool false))) sNil)
def v__law_light_17 (a : Ad) : SW :=
 (sRet (wC (.bool true)))
theorem u__law_light_parts (a : Ad) : u__law_light a = (sSeq (v__law_light_0 a) (sSeq (v__law_light_1 a) (sSeq (v__law_light_2 a) (sSeq (v__law_light_3 a) (sFrz 1 (sSeq (v__law_light_4 a) (sSeq (v__law_light_5 a) (sFrz 1 (sSeq (v__law_light_6 a) (sSeq (v__law_light_7 a) (sSeq (v__law_light_8 a) (sSeq (v__law_light_9 a) (sSeq (v__law_light_10 a) (sSeq (v__law_light_11 a) (sSeq (v__law_light_12 a) (sSeq (v__law_light_13 a) (sSeq (v__law_light_14 a) (sSeq (v__law_light_15 a) (sSeq (v__law_light_16 a) (v__law_light_17 a)))))))))))))))))))) := rfl
def g_law_0 : GD := (gNameD 4)
def b_law_0 (a : Ad) : SW :=
 (sSeq (sSet 5 (wCall 2 (c__law_roll a) (wpDc 1 (wpSh (wC (.int 9)) wpNil))))
 (sSeq (sApp 2 (wTup (wCons (w2 fIx (wC (.str "xy")) (wCall 2 (c__law_roll a) (wpDc 1 (wpSh (wC (.int 2)) wpNil)))) (wCons (wVar 5) (wCons (w2 fAdd (w2 fAdd (wRd 5) (wC (.int 1))) (wCall 2 (c__law_roll a) (wpDc 1 (wpSh (wC (.int 4)) wpNil)))) wNil)))))
 (sApp 3 (w2 fAdd (wC (.int 1)) (wCall 2 (c__law_roll a) (wpDc 1 (wpSh (wC (.int 9)) wpNil)))))))
def g_law_1 : GD := (gTupD 3 (gConsD (gNameD 7) (gConsD (gNameD 5) (gConsD (gNameD 8) gNilD))))
def b_law_1 (a : Ad) : SW :=
 (sApp 6 (wLc (wRng2 (wCons (wVar 5) (wCons (wVar 8) wNil))) (gNameD 12) wYes (wTup (wCons (wVar 7) (wCons (wVar 12) wNil))) [12]))
def g_law_2 : GD := (gNameD 4)
def b_law_2 (a : Ad) : SW :=
 (sSet 9 (w2 fCat (wRd 9) (wLc (wRng1 (wCons (wVar 4) wNil)) (gNameD 17) (wT (w2 (fEq true) (wLc (wItL (w2 fIx (wRd 6) (wRd 17))) (gNameD 18) (wT (w2 (fIn false) (wRd 18) (w2 fIx (wRd 6) (wRd 4)))) (wVar 18) [18]) (wLst wNil))) (wTup (wCons (wVar 17) (wCons (wVar 4) wNil))) [17])))
def g_law_3 : GD := (gNameD 12)
def b_law_3 (a : Ad) : SW :=
 (sFrz 6 (sSeq (sOwn 13 (wLc (wItS (wC (.str "xy"))) (gNameD 7) (wT (w2 (fEq true) (wLc (wItL (wVar 6)) (gNameD 20) (wT (w2 (fIn false) (wTup (wCons (wVar 7) (wCons (wVar 12) wNil))) (wRd 20))) (wC (.int 1)) [20]) (wLst wNil))) (wVar 7) [7]))
 (sFrz 2 (sSeq (sIf (wT (w2 (fEq true) (w1 fList (wCall 2 (c_away a) (wpSh (wVar 2) (wpSh (wVar 12) wpNil)))) (wRd 13))) (sRet (wC (.bool false))) sNil)
 (sFrz 13 (sSeq (sSet 14 (w1 fSum (wLc (wItL (wVar 13)) (gNameD 7) wYes (wDIx 10 (wVar 7)) [7])))
 (sSet 11 (wIf (wT (w2 (fC fun i j => decide (j < i)) (wRd 14) (w2 fIx (wRd 11) (wC (.int 0))))) (wTup (wCons (wVar 14) (wCons (wVar 12) wNil))) (wVar 11)))))))))
def g_law_4 : GD := (gNameD 4)
def b_law_4 (a : Ad) : SW :=
 (sSet 15 (w2 fCat (wRd 15) (wLc (wItL (wVar 15)) (gNameD 20) wYes (w2 fAdd (wRd 20) (wTup (wCons (wVar 4) wNil))) [20])))
def v_law_0 (a : Ad) : SW :=
 (sParN [2, 3] (wbOl (wLst wNil) (wbOl (wLst wNil) wpNil)))
def v_law_1 (a : Ad) : SW :=
 (sFor (wRng1 (wCons (wCall 2 (c__law_roll a) (wpDc 1 (wpSh (wC (.int 7)) wpNil))) wNil)) g_law_0 (b_law_0 a))
def v_law_2 (a : Ad) : SW :=
 (sOwn 6 (wLst wNil))
def v_law_3 (a : Ad) : SW :=
 (sFor (wItL (wVar 2)) g_law_1 (b_law_1 a))
def v_law_4 (a : Ad) : SW :=
 (sSet 9 (wLst wNil))
def v_law_5 (a : Ad) : SW :=
 (sFor (wRng1 (wCons (w1 fLen (wRd 2)) wNil)) g_law_2 (b_law_2 a))
def v_law_6 (a : Ad) : SW :=
 (sIf (wT (w2 (fEq true) (w1 fList (wCall 1 (c_clashes a) (wpSh (wVar 2) wpNil))) (w1 fSorted (wRd 9)))) (sRet (wC (.bool false))) sNil)
def v_law_7 (a : Ad) : SW :=
 (sIf (wT (w2 (fEq true) (wLc (wItL (wVar 9)) (gNameD 19) (wNot (wT (wCall 2 (c_clash a) (wpSh (w2 fIx (wRd 2) (w2 fIx (wRd 19) (wC (.int 0)))) (wpSh (w2 fIx (wRd 2) (w2 fIx (wRd 19) (wC (.int 1)))) wpNil))))) (wVar 19) [19]) (wLst wNil))) (sRet (wC (.bool false))) sNil)
def v_law_8 (a : Ad) : SW :=
 (sParN [10, 11] (wpSh (wDisp (wqCons (wC (.str "x")) (wCall 2 (c__law_roll a) (wpDc 1 (wpSh (wC (.int 5)) wpNil))) (wqCons (wC (.str "y")) (wCall 2 (c__law_roll a) (wpDc 1 (wpSh (wC (.int 5)) wpNil))) wqNil))) (wpSh (wTup (wCons (wC (.int 0)) (wCons (wC (.int 0)) wNil))) wpNil)))
def v_law_9 (a : Ad) : SW :=
 (sFor (wRng1 (wCons (wC (.int 14)) wNil)) g_law_3 (b_law_3 a))
def v_law_10 (a : Ad) : SW :=
 (sIf (wT (w2 (fEq true) (wCall 2 (c_most_away a) (wpSh (wVar 2) (wpSh (wVar 10) wpNil))) (wRd 11))) (sRet (wC (.bool false))) sNil)
def v_law_11 (a : Ad) : SW :=
 (sSet 15 (wLst (wCons (wTup wNil) wNil)))
def v_law_12 (a : Ad) : SW :=
 (sFor (wRng1 (wCons (w1 fLen (wRd 2)) wNil)) g_law_4 (b_law_4 a))
def v_law_13 (a : Ad) : SW :=
 (sOwn 16 (wLc (wItL (wVar 15)) (gNameD 20) (wT (w2 (fEq false) (wLc (wItL (wVar 9)) (gNameD 19) (wAnd (wT (w2 (fIn false) (w2 fIx (wRd 19) (wC (.int 0))) (wRd 20))) (wT (w2 (fIn false) (w2 fIx (wRd 19) (wC (.int 1))) (wRd 20)))) (wVar 19) [19]) (wLst wNil))) (wTup (wCons (w2 (fI CT fun i j => i - j) (wC (.int 0)) (w1 fSum (wLc (wItT (wVar 20)) (gNameD 4) wYes (w2 fIx (wRd 3) (wRd 4)) [4]))) (wCons (wVar 20) wNil))) [20]))
def v_law_14 (a : Ad) : SW :=
 (sIf (wT (w2 (fEq true) (wCall 2 (c_best_loans a) (wpSh (wVar 2) (wpSh (wVar 3) wpNil))) (wTup (wCons (w2 (fI CT fun i j => i - j) (wC (.int 0)) (w2 fIx (w1 fMin (wRd 16)) (wC (.int 0)))) (wCons (w2 fIx (w1 fMin (wRd 16)) (wC (.int 1))) wNil))))) (sRet (wC (.bool false))) sNil)
def v_law_15 (a : Ad) : SW :=
 (sIf (wNot (wT (wCall 1 (c__law_light a) (wpDc 1 wpNil)))) (sRet (wC (.bool false))) sNil)
def v_law_16 (a : Ad) : SW :=
 (sIf (wT (w2 (fEq true) (wTold (hsT a) (wCall 1 (c_check_loans a) (wpSh (wLst (wCons (wTup (wCons (wC (.str "x")) (wCons (wC (.int 1)) (wCons (wC (.int 1)) wNil)))) wNil)) wpNil))) (wC (.str "plan")))) (sRet (wC (.bool false))) sNil)
theorem u_law_parts (a : Ad) : u_law a = (sSeq (v_law_0 a) (sSeq (v_law_1 a) (sSeq (v_law_2 a) (sFrz 2 (sSeq (v_law_3 a) (sSeq (v_law_4 a) (sSeq (v_law_5 a) (sFrz 2 (sSeq (v_law_6 a) (sSeq (v_law_7 a) (sSeq (v_law_8 a) (sSeq (v_law_9 a) (sFrz 2 (sSeq (v_law_10 a) (sSeq (v_law_11 a) (sSeq (v_law_12 a) (sSeq (v_law_13 a) (sFrz 3 (sFrz 2 (sSeq (v_law_14 a) (sSeq (v_law_15 a) (v_law_16 a)))))))))))))))))))))) := rfl
end M14
set_option Elab.async false
set_option linter.all false
set_option maxRecDepth 100000
set_option maxHeartbeats 1000000
local macro_rules | `(tactic| walk_at "sz") => `(tactic| first | omega | (simp only [List.length_map, List.length_cons, List.length_nil, List.length_append, List.length_range, List.length_zipIdx] <;> omega))
local macro_rules | `(tactic| walk_at "pl") => `(tactic| first | exact U.pl_int _ | exact U.pl_str _ | exact U.pl_none | exact U.pl_bool _)
local macro_rules | `(tactic| walk_at "side") => `(tactic| first | exact True.intro | with_reducible exact rfl | exact U.le_size (by walk_at "sz") | exact U.lt_size (by walk_at "sz") | exact And.intro (by walk_at "pl") (by walk_at "pl") | exact And.intro (by walk_at "sz") (by walk_at "sz") | exact Or.inl (And.intro (by walk_at "sz") (by walk_at "sz")) | exact Or.inr (And.intro (by walk_at "sz") (by walk_at "sz")) | exact And.intro (by decide +kernel) (U.le_size (by walk_at "sz")) | walk_at "sz")
local macro_rules | `(tactic| walk_at "wp") => `(tactic| ((conv => whnf); (try dsimp only); repeat (refine And.intro (by walk_at "side") ?_; (conv => whnf); (try dsimp only))))
namespace M14
open PySem PySem.Spec PyProof.Rows L2 PL SG S14 KSet
open PySem.W (Datum DatumOrd Tup)
theorem ch_of {c1 c2 : Int → Int → Bool} {wa wb wc : PW} {ρ : En} {Q : PyData → Prop} {E : Exn → Prop} {x y z : Int} (ha : ∀ F : PyData → Prop, F (.int x) → wa ρ F E) (hb : ∀ F : PyData → Prop, F (.int y) → wb ρ F E) (hc : ∀ F : PyData → Prop, F (.int z) → wc ρ F E) (h : Q (.bool (c1 x y && c2 y z))) : wCh (fC c1) (fC c2) wa wb wc ρ Q E := by
  refine ha _ (hb _ ?_)
  show (fun z' : PyData => match z' with
  | .bool true => wc ρ (fun w => fC c2 (.int y) w Q) E
  | .bool false => Q (.bool false)
  | _ => False) (.bool (c1 x y))
  cases e : c1 x y with
  | true => rw [e] at h; exact hc _ h
  | false => rw [e] at h; exact h
def lsD (ls : List Ln) : PyData := .list (ls.map lnD)
theorem lnD_pl (l : Ln) : Pl (lnD l) := ⟨rfl, by simp [lnD, PyData.depth, PyData.depthAll]⟩
theorem p_check (a : Ad) (ls : List Ln) (ok : Ok ls) (Q : PyData → Prop) (E : Exn → Prop) (h : Q .none) : c_check_loans a [.sh (lsD ls)] Q E := by
  show u_check_loans a [.sh (lsD ls), .un, .un, .un] _
  refine ⟨U.noown rfl, ?_⟩
  refine U.gen_map (enc := lnD) (toD := PyData.bool) ls (fun _ => false) (fun l hl => ⟨rfl, rfl, rfl, ?_⟩) (fun bs eb => ?_)
  · obtain ⟨h1, h2, _⟩ := ok l hl
    refine ch_of (ρ := [.sh (lsD ls), .sh (.str (tS l.t)), .sh (.int l.f), .sh (.int l.u)]) (wa := wC (.int 0)) (wb := wVar 2) (wc := wVar 3) (x := 0) (y := l.f) (z := l.u) (fun _ h => h) (fun _ h => h) (fun _ h => h) ?_
    rw [decide_eq_true h1, decide_eq_true h2]
    rfl
  · exact U.no (b := (bs.filterMap id).any id) (by rw [eb]; simp) h
theorem p_check0 (a : Ad) (Q : PyData → Prop) (E : Exn → Prop) (h : E ⟨a.x_BadPlan, none⟩) : c_check_loans a [.sh (lsD [⟨true, 1, 1⟩])] Q E := by
  show u_check_loans a [.sh (lsD [⟨true, 1, 1⟩]), .un, .un, .un] _
  refine ⟨U.noown rfl, ?_⟩
  refine U.gen_map (enc := lnD) (toD := PyData.bool) [⟨true, 1, 1⟩] (fun _ => true) (fun l hl => ⟨rfl, rfl, rfl, ?_⟩) (fun bs eb => ?_)
  · rw [List.mem_singleton] at hl
    subst hl
    exact ch_of (ρ := [.sh (lsD [⟨true, 1, 1⟩]), .sh (.str (tS true)), .sh (.int 1), .sh (.int 1)]) (wa := wC (.int 0)) (wb := wVar 2) (wc := wVar 3) (x := 0) (y := 1) (z := 1) (fun _ h => h) (fun _ h => h) (fun _ h => h) rfl
  · exact U.yes (b := (bs.filterMap id).any id) (by rw [eb]; rfl) h
theorem eqv_tS (a b : Bool) : PyData.eqv (.str (tS a)) (.str (tS b)) = decide (a = b) := by
  rw [U.eqv_str]
  cases a <;> cases b <;> decide
theorem andB {b : Bool} {X : Prop} {Q : PyData → Prop} (h1 : b = true → X) (h0 : b = false → Q (.bool false)) : (fun d : PyData => match d with
  | .bool true => X
  | .bool false => Q (.bool false)
  | _ => False) (.bool b) := by
  cases b with
  | true => exact h1 rfl
  | false => exact h0 rfl
theorem p_clash (a : Ad) (l m : Ln) (Q : PyData → Prop) (E : Exn → Prop) (h : Q (.bool (clB l m))) : c_clash a [.sh (lnD l), .sh (lnD m)] Q E := by
  show u_clash a [.sh (lnD l), .sh (lnD m)] _
  unfold clB at h
  refine ⟨⟨U.pl_str _, U.pl_str _⟩, ?_⟩
  have e1 := eqv_tS l.t m.t
  rw [← e1] at h
  refine andB (b := PyData.eqv (.str (tS l.t)) (.str (tS m.t))) (fun c => ?_) (fun c => ?_)
  · rw [c, Bool.true_and] at h
    refine andB (b := decide (l.f < m.u)) (fun c => ?_) (fun c => ?_)
    · rw [c, Bool.true_and] at h
      exact h
    · rw [c, Bool.false_and] at h
      exact h
  · rw [c, Bool.false_and] at h
    exact h
end M14
set_option Elab.async false
set_option linter.all false
set_option maxRecDepth 100000
set_option maxHeartbeats 1000000
local macro_rules | `(tactic| walk_at "sz") => `(tactic| first | omega | (simp only [List.length_map, List.length_cons, List.length_nil, List.length_append, List.length_range, List.length_zipIdx] <;> omega))
local macro_rules | `(tactic| walk_at "pl") => `(tactic| first | exact U.pl_int _ | exact U.pl_str _ | exact U.pl_none | exact U.pl_bool _)
local macro_rules | `(tactic| walk_at "side") => `(tactic| first | exact True.intro | with_reducible exact rfl | exact U.le_size (by walk_at "sz") | exact U.lt_size (by walk_at "sz") | exact And.intro (by walk_at "pl") (by walk_at "pl") | exact And.intro (by walk_at "sz") (by walk_at "sz") | exact Or.inl (And.intro (by walk_at "sz") (by walk_at "sz")) | exact Or.inr (And.intro (by walk_at "sz") (by walk_at "sz")) | exact And.intro (by decide +kernel) (U.le_size (by walk_at "sz")) | walk_at "sz")
local macro_rules | `(tactic| walk_at "wp") => `(tactic| ((conv => whnf); (try dsimp only); repeat (refine And.intro (by walk_at "side") ?_; (conv => whnf); (try dsimp only))))
namespace M14
open PySem PySem.Spec PyProof.Rows L2 PL SG S14 KSet
open PySem.W (Datum DatumOrd Tup)
def clJ (ls : List Ln) (k n : Nat) : List (Nat × Nat) := ((List.range n).filter fun j => clB (atL ls k) (atL ls j)).map fun j => (j, k)
theorem clJ_succ (ls : List Ln) (k n : Nat) : clJ ls k (n + 1) = clJ ls k n ++ if clB (atL ls k) (atL ls n) = true then [(n, k)] else [] := by
  unfold clJ
  rw [List.range_succ, List.filter_append, List.map_append]
  congr 1
  cases e : clB (atL ls k) (atL ls n) with
  | true => simp [List.filter_cons, e]
  | false => simp [List.filter_cons, e]
theorem clJ_len (ls : List Ln) (k n : Nat) : (clJ ls k n).length ≤ n := by
  unfold clJ
  rw [List.length_map]
  refine Nat.le_trans (List.length_filter_le _ _) ?_
  rw [List.length_range]; exact Nat.le_refl _
theorem p_clashes (a : Ad) (ls : List Ln) (ok : Ok ls) (hl : ls.length ≤ 10) (Q : PyData → Prop) (E : Exn → Prop) (h : Q (.tuple ((srtP (clP ls ls.length)).map pN))) : c_clashes a [.sh (lsD ls)] Q E := by
  show u_clashes a [.sh (lsD ls), .un, .un, .un, .un, .un, .un, .un, .un, .un] _
  rw [u_clashes_parts]
  refine ⟨rfl, p_check a ls ok _ _ ?_⟩
  refine ⟨Nat.zero_le _, ?_⟩
  dsimp only [v_clashes_2, sSeq, sFor]
  refine U.itE (xs := ls.map lnD) rfl ?_
  refine U.for_enum ls (fun i ρ => ∃ s2 s3 s4 s5 s6 s7 s8 s9, ρ = [.sh (lsD ls), .ol ((clP ls i).map pN), s2, s3, s4, s5, s6, s7, s8, s9]) (fun i l ρ N hN hx hi hI => ?_) (fun ρ hI => ?_) _ ⟨_, _, _, _, _, _, _, _, rfl⟩
  · obtain ⟨s2, s3, s4, s5, s6, s7, s8, s9, rfl⟩ := hI
    have e := (atL_of hx).symm
    subst e
    refine ⟨rfl, rfl, rfl, rfl, ?_⟩
    show goFor g_clashes_1 (b_clashes_1 a) _ (enumD (PL.cutD (ls.map lnD) none (some (i : Int)))) _
    rw [U.cut_hi lnD ls (Nat.le_of_lt hi)]
    have lt : (ls.take i).length = i := by rw [List.length_take]; omega
    refine U.for_enum (ls.take i) (fun j ρ => ∃ s6 s7 s8 s9, ρ = [.sh (lsD ls), .ol ((clP ls i ++ clJ ls i j).map pN), .sh (.int (i : Nat)), .sh (.str (tS (atL ls i).t)), .sh (.int (atL ls i).f), .sh (.int (atL ls i).u), s6, s7, s8, s9]) (fun j m ρ N' hN' hy hj hI => ?_) (fun ρ hI => ?_) _ ⟨s6, s7, s8, s9, ?_⟩
    · obtain ⟨s6, s7, s8, s9, rfl⟩ := hI
      rw [lt] at hj
      have e : m = atL ls j := by
        rw [List.getElem?_take_of_lt hj] at hy
        exact (atL_of hy).symm
      subst e
      refine ⟨rfl, rfl, rfl, rfl, ?_⟩
      have no : clB (atL ls i) (atL ls j) = false → N' [.sh (lsD ls), .ol ((clP ls i ++ clJ ls i j).map pN), .sh (.int (i : Nat)), .sh (.str (tS (atL ls i).t)), .sh (.int (atL ls i).f), .sh (.int (atL ls i).u), .sh (.int (j : Nat)), .sh (.str (tS (atL ls j).t)), .sh (.int (atL ls j).f), .sh (.int (atL ls j).u)] := fun c => by
        refine hN' _ ⟨.sh (.int (j : Nat)), .sh (.str (tS (atL ls j).t)), .sh (.int (atL ls j).f), .sh (.int (atL ls j).u), ?_⟩
        rw [clJ_succ, c, if_neg (by decide), List.append_nil]
      refine ⟨⟨U.pl_str _, U.pl_str _⟩, ?_⟩
      refine U.br (b := PyData.eqv (.str (tS (atL ls i).t)) (.str (tS (atL ls j).t))) (fun c => ?_) (fun c => ?_)
      · rw [eqv_tS] at c
        refine U.brD (p := (atL ls i).f < (atL ls j).u) (fun c2 => ?_) (fun c2 => ?_)
        · refine U.brD (p := (atL ls j).f < (atL ls i).u) (fun c3 => ?_) (fun c3 => ?_)
          · have h1 := clP_len ls i
            have h2 := clJ_len ls i j
            have : i * i ≤ 10 * 10 := Nat.mul_le_mul (by omega) (by omega)
            refine ⟨U.le_size (show 2 ≤ 100000 by omega), U.lt_size (by rw [List.length_map, List.length_append]; omega), hN' _ ⟨.sh (.int (j : Nat)), .sh (.str (tS (atL ls j).t)), .sh (.int (atL ls j).f), .sh (.int (atL ls j).u), ?_⟩⟩
            rw [clJ_succ, if_pos (by unfold clB; rw [c, decide_eq_true c2, decide_eq_true c3]; rfl), ← List.append_assoc, List.map_append (l₂ := [(j, i)])]
            rfl
          · exact no (by unfold clB; rw [decide_eq_false c3]; simp)
        · exact U.no rfl (no (by unfold clB; rw [decide_eq_false c2]; simp))
      · rw [eqv_tS] at c
        exact U.no rfl (no (by unfold clB; rw [c]; rfl))
    · obtain ⟨s6, s7, s8, s9, rfl⟩ := hI
      rw [lt, show clP ls i ++ clJ ls i i = clP ls (i + 1) from (clP_succ ls i).symm]
      exact hN _ ⟨_, _, _, _, _, _, _, _, rfl⟩
    · rw [show clJ ls i 0 = [] from rfl, List.append_nil]
      rfl
  · obtain ⟨s2, s3, s4, s5, s6, s7, s8, s9, rfl⟩ := hI
    refine ⟨side_ii pI _, ?_⟩
    rw [← srtP_eq] at h
    exact h
/-! what is away -/
theorem p_away (a : Ad) (ls : List Ln) (ok : Ok ls) (hl : ls.length ≤ 10) (day : Int) (Q : PyData → Prop) (E : Exn → Prop) (h : Q (.tuple ((gone ls day).map fun t => .str (tS t)))) : c_away a [.sh (lsD ls), .sh (.int day)] Q E := by
  show u_away a [.sh (lsD ls), .sh (.int day), .un, .un, .un] _
  rw [u_away_parts]
  refine ⟨rfl, p_check a ls ok _ _ ?_⟩
  refine ⟨U.noown rfl, ?_⟩
  refine sc_go (enc := lnD) (fun l => if l.f ≤ day ∧ day < l.u then some (kT l.t) else none) ls [] (fun l hl' Y N hY hN => ?_) List.nodup_nil (by simp only [List.length_nil]; omega) fun ks nd ll hk bs pb => ?_
  · refine ⟨rfl, rfl, ?_⟩
    refine ch_of (ρ := [.sh (lsD ls), .sh (.int day), .sh (.str (tS l.t)), .sh (.int l.f), .sh (.int l.u)]) (wa := wVar 3) (wb := wVar 1) (wc := wVar 4) (x := l.f) (y := day) (z := l.u) (fun _ h => h) (fun _ h => h) (fun _ h => h) ?_
    show if (decide (l.f ≤ day) && decide (day < l.u)) = true then _ else _
    refine U.br (fun c => ?_) (fun c => ?_)
    · simp only [Bool.and_eq_true, decide_eq_true_eq] at c
      exact hY (kT l.t) (if_pos c)
    · refine hN (if_neg fun z => ?_)
      rw [decide_eq_true z.1, decide_eq_true z.2] at c
      cases c
  · have key : ∀ k, k ∈ ks ↔ ∃ t, onB ls day t = true ∧ kT t = k := fun k => by
      rw [hk]
      constructor
      · rintro (z | ⟨l, hl', e⟩)
        · cases z
        · split at e
          · rename_i c
            cases e
            refine ⟨l.t, ?_, rfl⟩
            unfold onB
            rw [List.any_eq_true]
            exact ⟨l, hl', by simp [c.1, c.2]⟩
          · cases e
      · rintro ⟨t, ht, rfl⟩
        unfold onB at ht
        rw [List.any_eq_true] at ht
        obtain ⟨l, hl', e⟩ := ht
        simp only [Bool.and_eq_true, decide_eq_true_eq] at e
        exact .inr ⟨l, hl', by rw [if_pos e.2, e.1]⟩
    obtain ⟨h1, h2⟩ := sort_things nd (onB ls day) key pb
    refine ⟨h1, ?_⟩
    rw [h2]
    exact h
end M14
set_option Elab.async false
set_option linter.all false
set_option maxRecDepth 100000
set_option maxHeartbeats 1000000
namespace S14
open PySem PySem.Spec PyProof.Rows L2 PL SG KSet
open PySem.W (Datum DatumOrd Tup)
/-! the day when most is away -/
def val (ls : List Ln) (w : Bool → Int) (d : Int) : Int := ((gone ls d).map w).sum
theorem val_eq (ls : List Ln) (w : Bool → Int) (d : Int) : val ls w d = (if onB ls d true = true then w true else 0) + (if onB ls d false = true then w false else 0) := by
  unfold val gone
  cases h1 : onB ls d true <;> cases h2 : onB ls d false <;> simp [List.filter, h1, h2]
def stepV (ls : List Ln) (w : Bool → Int) (p : Int × Int) (d : Int) : Int × Int := if p.1 < val ls w d then (val ls w d, d) else p
def isF (ls : List Ln) (d : Nat) : Bool := ls.any fun l => decide (l.f = (d : Int))
def daysN (n : Nat) : List Int := (List.range n).map fun d : Nat => (d : Int)
def firsts (ls : List Ln) (n : Nat) : List Int := ((List.range n).filter (isF ls)).map fun d : Nat => (d : Int)
def mostN (ls : List Ln) (w : Bool → Int) (n : Nat) : Int × Int := (daysN n).foldl (stepV ls w) (0, 0)
theorem mostN_succ (ls : List Ln) (w : Bool → Int) (n : Nat) : mostN ls w (n + 1) = stepV ls w (mostN ls w n) n := by
  unfold mostN daysN
  rw [List.range_succ, List.map_append, List.foldl_append]
  rfl
theorem on_prev {ls : List Ln} {n : Nat} (ok : ∀ l ∈ ls, 0 ≤ l.f) (h : isF ls n = false) (t : Bool) : onB ls n t = true → 0 < n ∧ onB ls ((n - 1 : Nat) : Int) t = true := by
  unfold isF at h
  unfold onB
  rw [List.any_eq_false] at h
  rw [List.any_eq_true, List.any_eq_true]
  rintro ⟨l, hl, e⟩
  simp only [Bool.and_eq_true, decide_eq_true_eq] at e
  have h1 := h l hl
  rw [decide_eq_true_eq] at h1
  have h2 := ok l hl
  refine ⟨by omega, l, hl, ?_⟩
  simp only [Bool.and_eq_true, decide_eq_true_eq]
  exact ⟨e.1, by omega, by omega⟩
theorem most_ge {ls : List Ln} {w : Bool → Int} (hw : ∀ t, 0 ≤ w t) : ∀ n, 0 ≤ (mostN ls w n).1 ∧ (0 < n → val ls w ((n - 1 : Nat) : Int) ≤ (mostN ls w n).1)
  | 0 => ⟨Int.le_refl _, fun h => absurd h (Nat.lt_irrefl _)⟩
  | n + 1 => by
    obtain ⟨h1, h2⟩ := most_ge hw (ls := ls) n
    rw [mostN_succ, show n + 1 - 1 = n from rfl]
    unfold stepV
    split
    · rename_i c
      exact ⟨by show 0 ≤ val ls w n; omega, fun _ => Int.le_refl _⟩
    · rename_i c
      exact ⟨h1, fun _ => by omega⟩
theorem most_firsts {ls : List Ln} {w : Bool → Int} (ok : ∀ l ∈ ls, 0 ≤ l.f) (hw : ∀ t, 0 ≤ w t) : ∀ n, (firsts ls n).foldl (stepV ls w) (0, 0) = mostN ls w n
  | 0 => rfl
  | n + 1 => by
    have ih := most_firsts ok hw n
    unfold firsts at ih ⊢
    rw [mostN_succ, List.range_succ, List.filter_append, List.map_append, List.foldl_append, ih]
    cases e : isF ls n with
    | true => simp [List.filter_cons, e]
    | false =>
      simp only [List.filter_cons, e, List.filter_nil, List.map_nil, List.foldl_nil, Bool.false_eq_true, if_false]
      obtain ⟨h1, h2⟩ := most_ge hw (ls := ls) n
      unfold stepV
      rw [if_neg]
      have p1 := on_prev ok e true
      have p2 := on_prev ok e false
      have w1 := hw true
      have w2 := hw false
      rw [val_eq]
      have hv := fun h => h2 h
      rw [val_eq] at hv
      by_cases c1 : onB ls n true = true
      · obtain ⟨n0, c1'⟩ := p1 c1
        have hv := hv n0
        rw [if_pos c1'] at hv
        rw [if_pos c1]
        by_cases c2 : onB ls n false = true
        · rw [if_pos (p2 c2).2] at hv
          rw [if_pos c2]
          omega
        · rw [if_neg c2]
          split at hv <;> omega
      · rw [if_neg c1]
        by_cases c2 : onB ls n false = true
        · obtain ⟨n0, c2'⟩ := p2 c2
          have hv := hv n0
          rw [if_pos c2'] at hv
          rw [if_pos c2]
          split at hv <;> omega
        · rw [if_neg c2]
          omega
theorem mem_firsts {ls : List Ln} (ok : Ok ls) {i : Int} : i ∈ firsts ls 14 ↔ ∃ l ∈ ls, l.f = i := by
  unfold firsts isF
  simp only [List.mem_map, List.mem_filter, List.mem_range, List.any_eq_true, decide_eq_true_eq]
  constructor
  · rintro ⟨d, ⟨_, l, hl, e⟩, rfl⟩
    exact ⟨l, hl, e⟩
  · rintro ⟨l, hl, rfl⟩
    obtain ⟨h1, h2, h3⟩ := ok l hl
    exact ⟨l.f.toNat, ⟨by omega, l, hl, by omega⟩, by omega⟩
theorem firsts_asc (ls : List Ln) (n : Nat) : (firsts ls n).Pairwise (· < ·) := by
  unfold firsts
  rw [List.pairwise_map]
  refine List.Pairwise.filter _ ?_
  have : (List.range n).Pairwise (· < ·) := List.pairwise_lt_range
  exact this.imp fun h => by omega
/-- sorted of a set of numbers -/
theorem sort_nums {ks bs : List Key} (hn : ks.Nodup) (L : List Int) (hL : L.Pairwise (· < ·)) (h : ∀ k, k ∈ ks ↔ ∃ i ∈ L, Sum.inl i = k) (hb : bs.Perm ks) :
    (PySem.W.AllAlike (bs.map keyD) ∧ PySem.W.Sortable (bs.map keyD)) ∧ (bs.mergeSort (PySem.W.dataLe false keyD)).map keyD = L.map .int := by
  have hbn : bs.Nodup := hb.nodup_iff.mpr hn
  obtain ⟨l, rfl⟩ : ∃ l : List Int, bs = l.map (Sum.inl : Int → Key) := by
    have hm : ∀ k ∈ bs, ∃ i : Int, (Sum.inl i : Key) = k := fun k hk => by
      obtain ⟨i, _, e⟩ := (h k).mp (hb.mem_iff.mp hk)
      exact ⟨i, e⟩
    clear hb hbn h hn
    induction bs with
    | nil => exact ⟨[], rfl⟩
    | cons b r ih =>
      obtain ⟨l, rfl⟩ := ih fun k hk => hm k (List.mem_cons_of_mem _ hk)
      obtain ⟨t, rfl⟩ := hm b List.mem_cons_self
      exact ⟨t :: l, rfl⟩
  have hln : l.Nodup := by
    rw [List.Nodup, List.pairwise_map] at hbn
    exact hbn.imp fun h e => h (by rw [e])
  have hlm : ∀ i, i ∈ l ↔ i ∈ L := fun i => by
    have : (Sum.inl i : Key) ∈ l.map (Sum.inl : Int → Key) ↔ i ∈ l := ⟨fun z => by obtain ⟨u, hu, e⟩ := List.mem_map.mp z; cases e; exact hu, fun z => List.mem_map_of_mem z⟩
    rw [← this, hb.mem_iff, h]
    exact ⟨fun ⟨u, hu, e⟩ => by cases e; exact hu, fun z => ⟨i, z, rfl⟩⟩
  refine ⟨⟨?_, ?_⟩, ?_⟩
  · rw [List.map_map]
    exact PySem.W.AllAlike.of (enc := keyD ∘ (Sum.inl : Int → Key)) fun _ _ => rfl
  · rw [List.map_map]
    exact PySem.W.Sortable.others (enc := keyD ∘ (Sum.inl : Int → Key)) fun b => ⟨fun e => (by cases e), fun _ e => (by cases e)⟩
  · have e : (l.map (Sum.inl : Int → Key)).mergeSort (PySem.W.dataLe false keyD) = (l.mergeSort fun a b => decide (a ≤ b)).map Sum.inl := (List.map_mergeSort fun a _ b _ => by
      exact (congrFun (congrFun (PySem.W.dataLe_int id) a) b).symm).symm
    have e2 : (l.mergeSort fun a b => decide (a ≤ b)) = L := by
      have h1 := List.pairwise_mergeSort (le := fun (a b : Int) => decide (a ≤ b)) (fun a b c x y => by simp only [decide_eq_true_eq] at *; omega) (fun a b => by simp only [Bool.or_eq_true, decide_eq_true_eq]; omega) l
      refine List.Perm.eq_of_pairwise (fun a b _ _ x y => by simp only [decide_eq_true_eq] at *; omega) h1 (hL.imp fun h => decide_eq_true (Int.le_of_lt h)) ((List.mergeSort_perm _ _).trans ((List.perm_ext_iff_of_nodup hln (hL.imp fun h => Int.ne_of_lt h)).mpr hlm))
    rw [e, e2, List.map_map]
    rfl
/-! the best loans -/
def setsN : Nat → List (List Nat)
  | 0 => [[]]
  | n + 1 => setsN n ++ (setsN n).map (· ++ [n])
def hitB (ls : List Ln) (n : Nat) (r : List Nat) : Bool := r.any fun j => clB (atL ls j) (atL ls n)
def rowsN (ls : List Ln) : Nat → List (List Nat)
  | 0 => [[]]
  | n + 1 => rowsN ls n ++ ((rowsN ls n).filter fun r => !hitB ls n r).map (· ++ [n])
def okR (ls : List Ln) (r : List Nat) : Bool := ((clP ls ls.length).filter fun p => decide (p.1 ∈ r) && decide (p.2 ∈ r)).isEmpty
theorem setsN_lt : ∀ {n : Nat} {r : List Nat}, r ∈ setsN n → ∀ j ∈ r, j < n
  | 0, r, h, j, hj => by rw [setsN, List.mem_singleton] at h; subst h; cases hj
  | n + 1, r, h, j, hj => by
    rw [setsN, List.mem_append, List.mem_map] at h
    rcases h with h | ⟨s, h, rfl⟩
    · have := setsN_lt h j hj; omega
    · rcases List.mem_append.mp hj with hj | hj
      · have := setsN_lt h j hj; omega
      · rw [List.mem_singleton] at hj; omega
theorem setsN_len : ∀ n, (setsN n).length = 2 ^ n
  | 0 => rfl
  | n + 1 => by rw [setsN, List.length_append, List.length_map, setsN_len n, Nat.pow_succ]; omega
theorem setsN_row {n : Nat} {r : List Nat} : r ∈ setsN n → r.length ≤ n := by
  induction n generalizing r with
  | zero => intro h; rw [setsN, List.mem_singleton] at h; subst h; exact Nat.le_refl _
  | succ n ih =>
    intro h
    rw [setsN, List.mem_append, List.mem_map] at h
    rcases h with h | ⟨s, h, rfl⟩
    · have := ih h; omega
    · have := ih h
      rw [List.length_append, List.length_singleton]; omega
theorem okR_iff {ls : List Ln} {r : List Nat} : okR ls r = true ↔ ∀ j k, j < k → k < ls.length → clB (atL ls k) (atL ls j) = true → j ∈ r → k ∉ r := by
  unfold okR
  rw [List.isEmpty_iff, List.filter_eq_nil_iff]
  simp only [Bool.and_eq_true, decide_eq_true_eq, not_and]
  exact ⟨fun h j k h1 h2 h3 h4 => h (j, k) (mem_clP.mpr ⟨h1, h2, h3⟩) h4, fun h p hp h4 => by
    obtain ⟨h1, h2, h3⟩ := mem_clP.mp hp
    exact h p.1 p.2 h1 h2 h3 h4⟩
theorem okR_app {ls : List Ln} {n : Nat} {r : List Nat} (hr : ∀ j ∈ r, j < n) (hn : n < ls.length) : okR ls (r ++ [n]) = (okR ls r && !hitB ls n r) := by
  rw [Bool.eq_iff_iff, Bool.and_eq_true, okR_iff, okR_iff, Bool.not_eq_true']
  unfold hitB
  rw [List.any_eq_false]
  constructor
  · intro h
    refine ⟨fun j k h1 h2 h3 h4 h5 => h j k h1 h2 h3 (List.mem_append_left _ h4) (List.mem_append_left _ h5), fun j hj c => ?_⟩
    exact h j n (hr j hj) hn (by rw [clB_symm]; exact c) (List.mem_append_left _ hj) (List.mem_append_right _ (List.mem_singleton.mpr rfl))
  · rintro ⟨h1, h2⟩ j k hjk hk hc hj hk2
    rcases List.mem_append.mp hk2 with z | z
    · rcases List.mem_append.mp hj with y | y
      · exact h1 j k hjk hk hc y z
      · have := hr k z
        rw [List.mem_singleton] at y
        omega
    · rw [List.mem_singleton] at z
      subst z
      rcases List.mem_append.mp hj with y | y
      · exact h2 j y (by rw [clB_symm]; exact hc)
      · rw [List.mem_singleton] at y
        omega
theorem rows_sets (ls : List Ln) : ∀ n, n ≤ ls.length → rowsN ls n = (setsN n).filter (okR ls)
  | 0, _ => by
    have : okR ls [] = true := okR_iff.mpr fun j k _ _ _ h => by cases h
    rw [setsN, rowsN, List.filter_cons, if_pos this]
    rfl
  | n + 1, h => by
    rw [setsN, rowsN, rows_sets ls n (by omega), List.filter_append, List.filter_map, List.filter_filter]
    congr 2
    refine List.filter_congr fun r hr => ?_
    show _ = okR ls (r ++ [n])
    rw [okR_app (fun j hj => setsN_lt hr j hj) (by omega), Bool.and_comm]
def payR (ps : List Int) (r : List Nat) : Int := (r.map fun k => ps.getD k 0).sum
def rowT (r : List Nat) : Tup Int := ⟨r.map fun k : Nat => (k : Int)⟩
def keyR (ps : List Int) (r : List Nat) : Int × Tup Int := (-(payR ps r), rowT r)
def mn : List (Int × Tup Int) → Int × Tup Int
  | [] => (0, ⟨[]⟩)
  | x :: xs => PySem.W.minOf x xs
theorem rows_ne (ls : List Ln) : ∀ n, rowsN ls n ≠ []
  | 0 => List.cons_ne_nil _ _
  | n + 1 => by
    rw [rowsN]
    intro h
    exact rows_ne ls n (List.append_eq_nil_iff.mp h).1
end S14
set_option Elab.async false
set_option linter.all false
set_option maxRecDepth 100000
set_option maxHeartbeats 1000000
local macro_rules | `(tactic| walk_at "sz") => `(tactic| first | omega | (simp only [List.length_map, List.length_cons, List.length_nil, List.length_append, List.length_range, List.length_zipIdx] <;> omega))
local macro_rules | `(tactic| walk_at "pl") => `(tactic| first | exact U.pl_int _ | exact U.pl_str _ | exact U.pl_none | exact U.pl_bool _)
local macro_rules | `(tactic| walk_at "side") => `(tactic| first | exact True.intro | with_reducible exact rfl | exact U.le_size (by walk_at "sz") | exact U.lt_size (by walk_at "sz") | exact And.intro (by walk_at "pl") (by walk_at "pl") | exact And.intro (by walk_at "sz") (by walk_at "sz") | exact Or.inl (And.intro (by walk_at "sz") (by walk_at "sz")) | exact Or.inr (And.intro (by walk_at "sz") (by walk_at "sz")) | exact And.intro (by decide +kernel) (U.le_size (by walk_at "sz")) | walk_at "sz")
local macro_rules | `(tactic| walk_at "wp") => `(tactic| ((conv => whnf); (try dsimp only); repeat (refine And.intro (by walk_at "side") ?_; (conv => whnf); (try dsimp only))))
namespace M14
open PySem PySem.Spec PyProof.Rows L2 PL SG S14 KSet
open PySem.W (Datum DatumOrd Tup)
def wD (w : Bool → Int) : PyData := .dict [(.str (tS true), .int (w true)), (.str (tS false), .int (w false))]
theorem w_at (w : Bool → Int) (t : Bool) : atSl (.sh (wD w)) (.str (tS t)) = some (some (.int (w t))) := by
  cases t <;> rfl
theorem p_most (a : Ad) (ls : List Ln) (w : Bool → Int) (ok : Ok ls) (hw : ∀ t, 0 ≤ w t) (hl : ls.length ≤ 10) (Q : PyData → Prop) (E : Exn → Prop) (h : Q (.tuple [.int (mostN ls w 14).1, .int (mostN ls w 14).2])) : c_most_away a [.sh (lsD ls), .sh (wD w)] Q E := by
  show u_most_away a [.sh (lsD ls), .sh (wD w), .un, .un, .un, .un, .un, .un] _
  rw [u_most_away_parts]
  refine ⟨U.le_size (by decide), ?_⟩
  dsimp only [v_most_away_1, sSeq, sFor]
  refine ⟨U.noown rfl, ?_⟩
  refine sc_go (enc := lnD) (fun l => some (.inl l.f)) ls [] (fun l hl' Y N hY hN => ⟨rfl, rfl, hY _ rfl⟩) List.nodup_nil (by simp only [List.length_nil]; omega) fun ks nd ll hk bs pb => ?_
  obtain ⟨h1, h2⟩ := sort_nums nd (firsts ls 14) (firsts_asc ls 14) (fun k => by
    rw [hk]
    constructor
    · rintro (z | ⟨l, hl', e⟩)
      · cases z
      · cases e
        exact ⟨l.f, (mem_firsts ok).mpr ⟨l, hl', rfl⟩, rfl⟩
    · rintro ⟨i, hi, rfl⟩
      obtain ⟨l, hl', rfl⟩ := (mem_firsts ok).mp hi
      exact .inr ⟨l, hl', rfl⟩) pb
  refine ⟨h1, ?_⟩
  rw [h2]
  have mf := most_firsts (ls := ls) (w := w) (fun l hl => (ok l hl).1) hw 14
  rw [← mf] at h
  refine U.for_list (enc := PyData.int) (firsts ls 14) (fun i ρ => ∃ s3 s4 s5 s6 s7, s5.owned = false ∧ ρ = [.sh (lsD ls), .sh (wD w), .sh (.tuple [.int (((firsts ls 14).take i).foldl (stepV ls w) (0, 0)).1, .int (((firsts ls 14).take i).foldl (stepV ls w) (0, 0)).2]), s3, s4, s5, s6, s7]) (fun i d ρ N hN hx hi hI => ?_) (fun ρ hI => ?_) _ ⟨_, _, _, _, _, rfl, rfl⟩
  · obtain ⟨s3, s4, s5, s6, s7, o5, rfl⟩ := hI
    refine ⟨U.noown (by simp [o5]), ?_⟩
    refine ⟨rfl, p_away a ls ok hl d _ _ ?_⟩
    refine U.gen_map (enc := fun t : Bool => PyData.str (tS t)) (toD := PyData.int) (gone ls d) w (fun t ht => ⟨rfl, ?_⟩) (fun bs eb => ?_)
    · show dIx (atSl (.sh (wD w)) (.str (tS t))) _
      rw [w_at]
      rfl
    · rw [show (firsts ls 14).take (i + 1) = (firsts ls 14).take i ++ [d] by rw [List.take_add_one, hx]; rfl, List.foldl_append] at hN
      rw [eb, show rSumD ((gone ls d).map w) = .int (val ls w d) from rfl]
      generalize ((firsts ls 14).take i).foldl (stepV ls w) (0, 0) = p at hN ⊢
      dsimp only [List.foldl] at hN
      unfold stepV at hN
      refine U.brD (p := p.1 < val ls w d) (fun c => ?_) (fun c => ?_)
      · rw [if_pos c] at hN
        exact ⟨U.le_size (show 2 ≤ 100000 by omega), hN _ ⟨_, _, _, _, _, o5, rfl⟩⟩
      · rw [if_neg c] at hN
        exact hN _ ⟨_, _, _, _, _, o5, rfl⟩
  · obtain ⟨s3, s4, s5, s6, s7, o5, rfl⟩ := hI
    rw [List.take_length]
    exact h
def rD (r : List Nat) : PyData := .tuple (r.map fun k : Nat => .int (k : Int))
theorem rD_T (r : List Nat) : rD r = Datum.toD (rowT r) := by
  show PyData.tuple _ = PyData.tuple ((r.map fun k : Nat => (k : Int)).map .int)
  rw [List.map_map]
  rfl
def psD (ps : List Int) : PyData := .list (ps.map .int)
theorem at_lnD {ls : List Ln} {k : Nat} (h : k < ls.length) {Y : PyData → Prop} (hY : Y (lnD (atL ls k))) : fIx (lsD ls) (.int (k : Nat)) Y := by
  show match atI (ls.map lnD) (k : Nat) with | some d => Y d | none => False
  rw [U.at_nat, List.getElem?_map, atL_get h]
  exact hY
theorem at_ps {ps : List Int} {k : Nat} (h : k < ps.length) {Y : PyData → Prop} (hY : Y (.int (ps.getD k 0))) : fIx (psD ps) (.int (k : Nat)) Y := by
  show match atI (ps.map .int) (k : Nat) with | some d => Y d | none => False
  rw [U.at_nat, List.getElem?_map, List.getElem?_eq_getElem h]
  rw [List.getD, List.getElem?_eq_getElem h] at hY
  exact hY
theorem p_best (a : Ad) (ls : List Ln) (ps : List Int) (ok : Ok ls) (hp : ∀ p ∈ ps, 1 ≤ p) (hl : ls.length ≤ 6) (el : ps.length = ls.length) (Q : PyData → Prop) (E : Exn → Prop)
    (h : Q (.tuple [.int (-(mn ((rowsN ls ls.length).map (keyR ps))).1), Datum.toD (mn ((rowsN ls ls.length).map (keyR ps))).2])) : c_best_loans a [.sh (lsD ls), .sh (psD ps)] Q E := by
  show u_best_loans a [.sh (lsD ls), .sh (psD ps), .un, .un, .un, .un, .un, .un] _
  rw [u_best_loans_parts]
  refine ⟨rfl, p_check a ls ok _ _ ?_⟩
  refine ⟨U.noown rfl, ?_⟩
  refine U.gen_map (enc := PyData.int) (toD := PyData.bool) ps (fun _ => false) (fun p hp' => ⟨rfl, ?_⟩) (fun bs eb => ?_)
  · show PyData.bool (decide (p < 1)) = .bool false
    rw [decide_eq_false (by have := hp p hp'; omega)]
  refine U.no (b := (bs.filterMap id).any id) (by rw [eb]; simp) ?_
  refine U.noD (p := (12 : Int) < ((ls.map lnD).length : Nat)) (by rw [List.length_map]; omega) ?_
  refine ⟨U.le_size (by decide), U.le_size (by decide), ?_⟩
  dsimp only [v_best_loans_4, sSeq, sFor]
  refine ⟨⟨by rw [List.length_map]; omega, by rw [List.length_map]; omega⟩, ?_⟩
  rw [show (((ls.map lnD).length : Nat) : Int).toNat = ls.length by rw [List.length_map]; omega]
  have hlt : ∀ n, n ≤ ls.length → ∀ r ∈ rowsN ls n, ∀ j ∈ r, j < n := fun n hn r hr => by
    rw [rows_sets ls n hn] at hr
    exact setsN_lt (List.mem_filter.mp hr).1
  have hln : ∀ n, n ≤ ls.length → (rowsN ls n).length ≤ 64 := fun n hn => by
    rw [rows_sets ls n hn]
    refine Nat.le_trans (List.length_filter_le _ _) ?_
    rw [setsN_len]
    exact Nat.le_trans (Nat.pow_le_pow_right (by omega) (Nat.le_trans hn hl)) (by decide)
  have hrl : ∀ n, n ≤ ls.length → ∀ r ∈ rowsN ls n, r.length ≤ n := fun n hn r hr => by
    rw [rows_sets ls n hn] at hr
    exact setsN_row (List.mem_filter.mp hr).1
  refine U.for_rng ls.length (fun i ρ => ∃ s3 s4 s5 s6 s7, s6.owned = false ∧ s7.owned = false ∧ s3.owned = false ∧ ρ = [.sh (lsD ls), .sh (psD ps), .sh (.list ((rowsN ls i).map rD)), s3, s4, s5, s6, s7]) (fun i ρ N hN hi hI => ?_) (fun ρ hI => ?_) _ ⟨_, _, _, _, _, rfl, rfl, rfl, rfl⟩
  · obtain ⟨s3, s4, s5, s6, s7, o6, o7, o3, rfl⟩ := hI
    have h64 := hln i (by omega)
    refine ⟨U.noown (by simp [o6]), ?_⟩
    refine U.lc_all (enc := rD) (enco := fun r : List Nat => rD r) (rowsN ls i) (fun r => if (!hitB ls i r) = true then some (r ++ [i]) else none) (fun r hr Y M hY hM => ?_) (by omega) ?_
    · refine ⟨U.noown (by show (!s7.owned && true) = true; rw [o7]; rfl), ?_⟩
      refine U.gen_map (enc := fun k : Nat => PyData.int (k : Nat)) (toD := PyData.bool) r (fun j => clB (atL ls j) (atL ls i)) (fun j hj => ⟨rfl, ?_⟩) (fun bs eb => ?_)
      · have := hlt i (by omega) r hr j hj
        refine at_lnD (by omega) ?_
        refine at_lnD hi ?_
        exact ⟨rfl, p_clash a _ _ _ _ rfl⟩
      · refine U.br (b := !((bs.filterMap id).any id)) (fun c => ?_) (fun c => ?_)
        · rw [eb, List.any_map] at c
          have := hrl i (by omega) r hr
          refine ⟨U.le_size (show 1 ≤ 100000 by omega), U.le_size (by simp only [List.length_map, List.length_cons, List.length_nil]; omega), ?_⟩
          have hY := hY (r ++ [i]) (if_pos c)
          unfold rD at hY
          rw [List.map_append] at hY
          exact hY
        · rw [eb, List.any_map] at c
          exact hM (if_neg (by rw [show (!hitB ls i r) = false from c]; decide))
    · have e : (rowsN ls i).filterMap (fun r => if (!hitB ls i r) = true then some (r ++ [i]) else none) = ((rowsN ls i).filter fun r => !hitB ls i r).map (· ++ [i]) := by
        induction rowsN ls i with
        | nil => rfl
        | cons r t ih =>
          by_cases c : (!hitB ls i r) = true
          · rw [List.filterMap_cons_some (by rw [if_pos c]), List.filter_cons_of_pos (by exact c), ih]; rfl
          · rw [List.filterMap_cons_none (by rw [if_neg c]), List.filter_cons_of_neg (by exact c), ih]
      rw [e]
      have hf := List.length_filter_le (fun r => !hitB ls i r) (rowsN ls i)
      refine ⟨U.le_size (by simp only [List.length_map]; omega), ?_⟩
      have hN := hN [.sh (lsD ls), .sh (psD ps), .sh (.list ((rowsN ls (i + 1)).map rD)), .sh (.int (i : Nat)), s4, s5, s6, s7] ⟨_, _, _, _, _, o6, o7, rfl, rfl⟩
      rw [rowsN, List.map_append] at hN
      exact hN
  · obtain ⟨s3, s4, s5, s6, s7, o6, o7, o3, rfl⟩ := hI
    have h64 := hln _ (Nat.le_refl _)
    refine ⟨U.noown (by simp [o6]), ?_⟩
    refine U.lc_map (enc := rD) (enco := fun x : Int × Tup Int => Datum.toD x) (rowsN ls ls.length) (keyR ps) (fun r hr Y hY => ?_) (by omega) ?_
    · refine ⟨U.noown (by show (!s3.owned && true) = true; rw [o3]; rfl), ?_⟩
      refine U.gen_map (enc := fun k : Nat => PyData.int (k : Nat)) (toD := PyData.int) r (fun k => ps.getD k 0) (fun k hk => ⟨rfl, ?_⟩) (fun bs eb => ?_)
      · have := hlt _ (Nat.le_refl _) r hr k hk
        exact at_ps (by omega) rfl
      · refine ⟨U.le_size (show 2 ≤ 100000 by omega), ?_⟩
        rw [eb]
        have e : (keyR ps r) = (-((r.map fun k => ps.getD k 0).sum), rowT r) := rfl
        rw [e] at hY
        have e2 : Datum.toD (-((r.map fun k => ps.getD k 0).sum), rowT r) = PyData.tuple [.int (-((r.map fun k => ps.getD k 0).sum)), Datum.toD (rowT r)] := rfl
        rw [e2, ← rD_T] at hY
        exact hY
    · cases hr : rowsN ls ls.length with
      | nil => exact absurd hr (rows_ne ls _)
      | cons r t =>
        rw [hr] at h
        refine U.p_min (keyR ps r) (t.map (keyR ps)) ?_
        refine ⟨U.le_size (show 2 ≤ 100000 by omega), ?_⟩
        exact h
end M14
set_option Elab.async false
set_option linter.all false
set_option maxRecDepth 100000
set_option maxHeartbeats 1000000
namespace S14
open PySem PySem.Spec PyProof.Rows L2 PL SG KSet
open PySem.W (Datum DatumOrd Tup)
/-! light that is borne -/
structure Sh where
  t : Bool
  f : Int
  u : Int
  r : Nat
def shD (s : Sh) : PyData := .tuple [.str (tS s.t), .int s.f, .int s.u, .int (s.r : Nat)]
def OkS (ss : List Sh) : Prop := ∀ s ∈ ss, 0 ≤ s.f ∧ s.f < s.u ∧ s.u ≤ 14 ∧ s.r < 2
def lx (lu : Int × Int) (r : Nat) : Int := if r = 0 then lu.1 else lu.2
def luD (lu : Int × Int) : PyData := .list [.int lu.1, .int lu.2]
def amt (lu : Int × Int) (s : Sh) : Int := (s.u - s.f) * lx lu s.r
def sumT (lu : Int × Int) (ss : List Sh) (t : Bool) : Int := (ss.map fun s => if s.t = t then amt lu s else 0).sum
def hasT (ss : List Sh) (t : Bool) : Bool := ss.any fun s => decide (s.t = t)
theorem sum_not {lu : Int × Int} {t : Bool} : ∀ {ss : List Sh}, hasT ss t = false → sumT lu ss t = 0
  | [], _ => rfl
  | s :: r, h => by
    unfold hasT at h
    rw [List.any_cons, Bool.or_eq_false_iff] at h
    have ih := sum_not (lu := lu) (t := t) (ss := r) h.2
    unfold sumT at ih ⊢
    rw [List.map_cons, List.sum_cons, ih, if_neg (of_decide_eq_false h.1)]
    rfl
theorem sum_app (lu : Int × Int) (ss : List Sh) (s : Sh) (t : Bool) : sumT lu (ss ++ [s]) t = sumT lu ss t + if s.t = t then amt lu s else 0 := by
  unfold sumT
  rw [List.map_append, List.sum_append, List.map_singleton, List.sum_singleton]
theorem has_app (ss : List Sh) (s : Sh) (t : Bool) : hasT (ss ++ [s]) t = (hasT ss t || decide (s.t = t)) := by
  unfold hasT
  rw [List.any_append, List.any_cons, List.any_nil, Bool.or_false]
theorem sum_filter (lu : Int × Int) (t : Bool) : ∀ ss : List Sh, sumT lu ss t = ((ss.filter fun s => decide (s.t = t)).map (amt lu)).sum
  | [] => rfl
  | s :: r => by
    have ih := sum_filter lu t r
    unfold sumT at ih ⊢
    rw [List.map_cons, List.sum_cons, ih, List.filter_cons]
    by_cases c : s.t = t
    · rw [if_pos c, if_pos (decide_eq_true c), List.map_cons, List.sum_cons]
    · rw [if_neg c, if_neg (by rw [decide_eq_false c]; decide), Int.zero_add]
def addT (ts : List Bool) (t : Bool) : List Bool := if t ∈ ts then ts else ts ++ [t]
def tsOf (ss : List Sh) : List Bool := ss.foldl (fun ts s => addT ts s.t) []
theorem tsOf_app (ss : List Sh) (s : Sh) : tsOf (ss ++ [s]) = addT (tsOf ss) s.t := by
  unfold tsOf
  rw [List.foldl_append]
  rfl
def tabD (ts : List Bool) (v : Bool → Int) : List (Key × PyData) := ts.map fun t => (kT t, .int (v t))
theorem kT_inj {a b : Bool} : kT a = kT b ↔ a = b := ⟨fun e => (tS_eq a b).mp (Sum.inr.inj e), fun e => by rw [e]⟩
theorem look_tab (v : Bool → Int) (t : Bool) : ∀ ts : List Bool, lookK (tabD ts v) (kT t) = if t ∈ ts then some (.int (v t)) else none
  | [] => by simp [tabD, lookK]
  | x :: ts => by
    have ih := look_tab v t ts
    unfold lookK tabD at ih ⊢
    rw [List.map_cons, List.find?_cons]
    by_cases c : x = t
    · subst c
      simp
    · have : decide ((kT x, PyData.int (v x)).1 = kT t) = false := decide_eq_false fun e => c (kT_inj.mp e)
      rw [this]
      have h2 : t ∈ x :: ts ↔ t ∈ ts := by simp [Ne.symm c]
      simp only [h2]
      exact ih
theorem put_tab (v : Bool → Int) (t : Bool) (n : Int) (ts : List Bool) : putD (tabD ts v) (kT t) (.int n) = tabD (addT ts t) (fun x => if x = t then n else v x) := by
  unfold putD addT
  have h : ((tabD ts v).any fun p => decide (p.1 = kT t)) = decide (t ∈ ts) := by
    unfold tabD
    rw [List.any_map]
    by_cases c : t ∈ ts
    · rw [decide_eq_true c]
      exact List.any_eq_true.mpr ⟨t, c, decide_eq_true rfl⟩
    · rw [decide_eq_false c, List.any_eq_false]
      intro x hx e
      exact c (by rw [← kT_inj.mp (of_decide_eq_true e)]; exact hx)
  rw [h]
  by_cases c : t ∈ ts
  · rw [if_pos (decide_eq_true c), if_pos c]
    unfold tabD
    rw [List.map_map]
    refine List.map_congr_left fun x hx => ?_
    show (if kT x = kT t then (kT x, PyData.int n) else (kT x, .int (v x))) = (kT x, .int (if x = t then n else v x))
    by_cases e : x = t
    · subst e; rw [if_pos rfl, if_pos rfl]
    · rw [if_neg fun z => e (kT_inj.mp z), if_neg e]
  · rw [if_neg (by rw [decide_eq_false c]; decide), if_neg c]
    unfold tabD
    rw [List.map_append, List.map_singleton]
    dsimp only
    rw [if_pos rfl]
    congr 1
    refine List.map_congr_left fun x hx => ?_
    rw [if_neg fun e => c (by rw [← e]; exact hx)]
theorem mem_addT {ts : List Bool} {t x : Bool} : x ∈ addT ts t ↔ x ∈ ts ∨ x = t := by
  unfold addT
  split
  · rename_i h
    exact ⟨.inl, fun z => z.elim id fun e => by rw [e]; exact h⟩
  · rw [List.mem_append, List.mem_singleton]
theorem nodup_addT {ts : List Bool} {t : Bool} (n : ts.Nodup) : (addT ts t).Nodup := by
  unfold addT
  split
  · exact n
  · rename_i h
    rw [List.nodup_append]
    refine ⟨n, by simp, fun a ha b hb e => ?_⟩
    rw [List.mem_singleton] at hb
    subst hb; subst e
    exact h ha
theorem tsOf_spec (ss : List Sh) : (tsOf ss).Nodup ∧ ∀ t, t ∈ tsOf ss ↔ hasT ss t = true := by
  have key : ∀ (ss : List Sh) (ts : List Bool), ts.Nodup → (ss.foldl (fun ts s => addT ts s.t) ts).Nodup ∧ ∀ t, t ∈ ss.foldl (fun ts s => addT ts s.t) ts ↔ t ∈ ts ∨ hasT ss t = true := fun ss => by
    induction ss with
    | nil => exact fun ts n => ⟨n, fun t => ⟨.inl, fun z => z.elim id fun e => by cases e⟩⟩
    | cons s r ih =>
      intro ts n
      obtain ⟨h1, h2⟩ := ih (addT ts s.t) (nodup_addT n)
      refine ⟨h1, fun t => ?_⟩
      rw [List.foldl_cons, h2, mem_addT]
      unfold hasT
      rw [List.any_cons, Bool.or_eq_true, decide_eq_true_eq, or_assoc, eq_comm (a := t)]
  obtain ⟨h1, h2⟩ := key ss [] List.nodup_nil
  refine ⟨h1, fun t => (h2 t).trans ⟨fun z => z.elim (fun z => by cases z) id, .inr⟩⟩
theorem tsOf_len (ss : List Sh) : (tsOf ss).length ≤ ss.length := by
  have key : ∀ (ss : List Sh) (ts : List Bool), (ss.foldl (fun ts s => addT ts s.t) ts).length ≤ ts.length + ss.length := fun ss => by
    induction ss with
    | nil => exact fun ts => Nat.le_refl _
    | cons s r ih =>
      intro ts
      have := ih (addT ts s.t)
      have h : (addT ts s.t).length ≤ ts.length + 1 := by unfold addT; split <;> simp
      rw [List.foldl_cons, List.length_cons]
      omega
  have := key ss []
  rw [List.length_nil, Nat.zero_add] at this
  exact this
def thL (ss : List Sh) : List Bool := [true, false].filter (hasT ss)
def bornP (lu : Int × Int) (ss : List Sh) (t : Bool) : Str × Int := (tS t, sumT lu ss t)
def bornL (lu : Int × Int) (ss : List Sh) : List (Str × Int) := (thL ss).map (bornP lu ss)
theorem side_si (l : List (Str × Int)) : PyData.plainAll (l.map fun c => Datum.toD c) = true ∧ (∀ d ∈ l.map (fun c => Datum.toD c), d.depth ≤ 30) ∧ PySem.W.AllAlike (l.map fun c => Datum.toD c) ∧ PySem.W.Sortable (l.map fun c => Datum.toD c) := by
  refine ⟨?_, fun d hd => ?_, PySem.W.AllAlike.of (enc := fun c : Str × Int => Datum.toD c) fun _ _ => rfl, PySem.W.Sortable.tuples (enc := fun c : Str × Int => Datum.toD c) fun b => ⟨_, _, rfl⟩⟩
  · induction l with
    | nil => rfl
    | cons i r ih =>
      show (PyData.plain (Datum.toD i) && PyData.plainAll (r.map fun c => Datum.toD c)) = true
      rw [ih]; rfl
  · obtain ⟨n, _, rfl⟩ := List.mem_map.mp hd
    exact (by decide : 1 ≤ 30)
theorem tab_items (ts : List Bool) (v : Bool → Int) : (tabD ts v).map itemD = (ts.map fun t => (tS t, v t)).map fun c => Datum.toD c := by
  unfold tabD
  rw [List.map_map, List.map_map]
  rfl
theorem sort_tab (v : Bool → Int) {ts : List Bool} (hn : ts.Nodup) (p : Bool → Bool) (h : ∀ t, t ∈ ts ↔ p t = true) : ((tabD ts v).map itemD).mergeSort (PySem.W.dataLe false id) = (([true, false].filter p).map fun t => (tS t, v t)).map fun c => Datum.toD c := by
  have hlt : ∀ t : Bool, PySem.W.dataLt (Datum.toD (tS t, v t)) (Datum.toD (tS t, v t)) = false := fun t => by
    rw [PySem.W.DatumOrd.lt_eq]
    simp [PySem.W.DatumOrd.lt]
  rw [tab_items, ← sort_B hn p h, List.map_map, List.map_map]
  refine (List.map_mergeSort (f := (fun c : Str × Int => Datum.toD c) ∘ fun t => (tS t, v t)) fun x _ y _ => ?_).symm
  show leB x y = !PySem.W.dataLt (Datum.toD (tS y, v y)) (Datum.toD (tS x, v x))
  by_cases e : x = y
  · subst e
    rw [hlt]
    cases x <;> rfl
  · rw [PySem.W.DatumOrd.lt_eq]
    cases x <;> cases y <;> first | exact absurd rfl e | rfl | decide
/-- what a dict of the pairs holds -/
theorem pairs_born (v : Bool → Int) : ∀ ts : List Bool, pairsD ((ts.map fun t => (tS t, v t)).map fun c => Datum.toD c) = some (tabD ts v)
  | [] => rfl
  | t :: ts => by
    have ih := pairs_born v ts
    rw [List.map_cons, List.map_cons]
    show (match pairD (.tuple [.str (tS t), .int (v t)]), pairsD ((ts.map fun t => (tS t, v t)).map fun c => Datum.toD c) with | some p, some ps => some (p :: ps) | _, _ => none) = _
    rw [ih]
    rfl
theorem get_born (v : Bool → Int) (p : Bool → Bool) (hv : ∀ t, p t = false → v t = 0) (t : Bool) : ∃ o, atSl (.sh (dictD (tabD ([true, false].filter p) v))) (.str (tS t)) = some o ∧ o.getD (.int 0) = .int (v t) := by
  cases h1 : p true <;> cases h2 : p false <;> cases t <;> simp only [List.filter, h1, h2] <;> first
    | exact ⟨_, rfl, rfl⟩
    | exact ⟨_, rfl, by rw [hv _ h1]; rfl⟩
    | exact ⟨_, rfl, by rw [hv _ h2]; rfl⟩
/-! turns -/
def rowU (n p d : Nat) : List Nat := (List.range p).map fun k => (d * p + k) % n
def oft (n p t one : Nat) : Nat := ((List.range t).filter fun d => decide (one ∈ rowU n p d)).length
def oftL (n p t : Nat) : List Nat := (List.range n).map (oft n p t)
def ceilN (n p t : Nat) : Nat := (t * p + n - 1) / n
def chk (n p t : Nat) : Bool := decide ((oftL n p t).sum = t * p) && ((oftL n p t).any fun c => decide (c = ceilN n p t)) && (oftL n p t).all fun c => decide (c ≤ ceilN n p t) && decide (ceilN n p t ≤ c + 1)
theorem chk_all : ((List.range 6).all fun n => (List.range 6).all fun p => (List.range 9).all fun t => !(decide (0 < n) && decide (p ≤ n)) || chk n p t) = true := by decide +kernel
theorem turns_all {n p t : Nat} (h0 : 0 < n) (hn : n < 6) (hp : p ≤ n) (ht : t < 9) : (oftL n p t).sum = t * p ∧ ceilN n p t ∈ oftL n p t ∧ ∀ c ∈ oftL n p t, c ≤ ceilN n p t ∧ ceilN n p t ≤ c + 1 := by
  have h := chk_all
  rw [List.all_eq_true] at h
  have h := h n (List.mem_range.mpr hn)
  rw [List.all_eq_true] at h
  have h := h p (List.mem_range.mpr (by omega))
  rw [List.all_eq_true] at h
  have h := h t (List.mem_range.mpr ht)
  rw [decide_eq_true h0, decide_eq_true hp] at h
  have h : chk n p t = true := h
  unfold chk at h
  rw [Bool.and_eq_true, Bool.and_eq_true, decide_eq_true_eq, List.any_eq_true, List.all_eq_true] at h
  obtain ⟨⟨h1, c, hc, e⟩, h3⟩ := h
  refine ⟨h1, by rw [← of_decide_eq_true e]; exact hc, fun c hc => ?_⟩
  have := h3 c hc
  rw [Bool.and_eq_true, decide_eq_true_eq, decide_eq_true_eq] at this
  exact this
theorem ceil_int {n p t : Nat} (h0 : 0 < n) (h5 : n < 6) : -(-(t : Int) * (p : Int) / (n : Int)) = ((ceilN n p t : Nat) : Int) := by
  unfold ceilN
  have e : -(t : Int) * (p : Int) = -((t * p : Nat) : Int) := by rw [Int.neg_mul, Int.natCast_mul]
  rw [e]
  generalize t * p = m
  have : n = 1 ∨ n = 2 ∨ n = 3 ∨ n = 4 ∨ n = 5 := by omega
  rcases this with rfl | rfl | rfl | rfl | rfl <;> omega
end S14
set_option Elab.async false
set_option linter.all false
set_option maxRecDepth 100000
set_option maxHeartbeats 1000000
local macro_rules | `(tactic| walk_at "sz") => `(tactic| first | omega | (simp only [List.length_map, List.length_cons, List.length_nil, List.length_append, List.length_range, List.length_zipIdx] <;> omega))
local macro_rules | `(tactic| walk_at "pl") => `(tactic| first | exact U.pl_int _ | exact U.pl_str _ | exact U.pl_none | exact U.pl_bool _)
local macro_rules | `(tactic| walk_at "side") => `(tactic| first | exact True.intro | with_reducible exact rfl | exact U.le_size (by walk_at "sz") | exact U.lt_size (by walk_at "sz") | exact And.intro (by walk_at "pl") (by walk_at "pl") | exact And.intro (by walk_at "sz") (by walk_at "sz") | exact Or.inl (And.intro (by walk_at "sz") (by walk_at "sz")) | exact Or.inr (And.intro (by walk_at "sz") (by walk_at "sz")) | exact And.intro (by decide +kernel) (U.le_size (by walk_at "sz")) | walk_at "sz")
local macro_rules | `(tactic| walk_at "wp") => `(tactic| ((conv => whnf); (try dsimp only); repeat (refine And.intro (by walk_at "side") ?_; (conv => whnf); (try dsimp only))))
namespace M14
open PySem PySem.Spec PyProof.Rows L2 PL SG S14 KSet
open PySem.W (Datum DatumOrd Tup)
theorem cmul {x y : Int} (h : -1000 ≤ x ∧ x ≤ 1000) : CMul x y := .inl ⟨by omega, by omega⟩
theorem cdiv {i n : Int} (h : 0 < n) (h2 : n < 1073741824) : CDiv i n := ⟨h, h2⟩
def ssD (ss : List Sh) : PyData := .list (ss.map shD)
def OkL (lu : Int × Int) : Prop := (0 ≤ lu.1 ∧ lu.1 ≤ 3) ∧ 0 ≤ lu.2 ∧ lu.2 ≤ 3
theorem lx_ok {lu : Int × Int} (h : OkL lu) (r : Nat) : 0 ≤ lx lu r ∧ lx lu r ≤ 3 := by
  unfold lx
  split
  · exact h.1
  · exact h.2
theorem at_lu {lu : Int × Int} {r : Nat} (h : r < 2) {Y : PyData → Prop} (hY : Y (.int (lx lu r))) : fIx (luD lu) (.int (r : Nat)) Y := by
  have : r = 0 ∨ r = 1 := by omega
  rcases this with rfl | rfl <;> exact hY
theorem put_of {i : Nat} {wk w : PW} {ρ : En} {D : PEn} {kvs : List (Key × PyData)} (h : ρ[i]? = some (.ok kvs)) (hw : w ρ (fun d => wk ρ (fun k => ∃ key, keyOf k = some key ∧ kvs.length < sizeLine ∧ D.nx (ρ.set i (.ok (putD kvs key d)))) D.ex) D.ex) : sPut i wk w ρ D := by
  unfold sPut
  rw [h]
  exact hw
theorem dget_of {i : Nat} {wk wx : PW} {ρ : En} {kvs : List (Key × PyData)} {k x : PyData} {key : Key} {Q : PyData → Prop} {E : Exn → Prop} (h : ρ[i]? = some (.ok kvs)) (hk : ∀ F : PyData → Prop, F k → wk ρ F E) (hx : ∀ F : PyData → Prop, F x → wx ρ F E) (e : keyOf k = some key) (hQ : Q ((lookK kvs key).getD x)) : wDGet i wk wx ρ Q E := by
  unfold wDGet wDs
  rw [h]
  refine hk _ (hx _ ?_)
  unfold dGet atSl
  rw [e]
  exact hQ
theorem p_borne (a : Ad) (lu : Int × Int) (ss : List Sh) (ok : OkS ss) (hu : OkL lu) (hl : ss.length ≤ 10) (Q : PyData → Prop) (E : Exn → Prop) (h : Q (.tuple ((bornL lu ss).map fun c => Datum.toD c))) : c_borne a [.sh (ssD ss), .sh (luD lu)] Q E := by
  show u_borne a [.sh (ssD ss), .sh (luD lu), .un, .un, .un, .un, .un] _
  rw [u_borne_parts]
  dsimp only [v_borne_0, v_borne_1, sSeq, sFor, sDk]
  refine U.itL (xs := ss.map shD) rfl ?_
  refine U.for_list (enc := shD) ss (fun i ρ => ∃ s3 s4 s5 s6, ρ = [.sh (ssD ss), .sh (luD lu), .ok (tabD (tsOf (ss.take i)) (sumT lu (ss.take i))), s3, s4, s5, s6]) (fun i s ρ N hN hx hi hI => ?_) (fun ρ hI => ?_) _ ⟨_, _, _, _, rfl⟩
  · obtain ⟨s3, s4, s5, s6, rfl⟩ := hI
    obtain ⟨h1, h2, h3, h4⟩ := ok s (List.mem_of_getElem? hx)
    have htk : ss.take (i + 1) = ss.take i ++ [s] := by rw [List.take_add_one, hx]; rfl
    rw [htk, tsOf_app] at hN
    have hlt : (ss.take i).length ≤ 10 := by rw [List.length_take]; omega
    generalize ss.take i = ts at hN hlt ⊢
    refine ⟨rfl, rfl, ?_⟩
    dsimp only [b_borne_0, sSeq, sIf, wOr, wNot, wT]
    refine ch_of (ρ := [.sh (ssD ss), .sh (luD lu), .ok (tabD (tsOf ts) (sumT lu ts)), .sh (.str (tS s.t)), .sh (.int s.f), .sh (.int s.u), .sh (.int (s.r : Nat))]) (wa := wC (.int 0)) (wb := wVar 4) (wc := wVar 5) (x := 0) (y := s.f) (z := s.u) (fun _ h => h) (fun _ h => h) (fun _ h => h) ?_
    rw [decide_eq_true h1, decide_eq_true h2]
    refine U.no (b := !(true && true)) rfl ?_
    refine ch_of (ρ := [.sh (ssD ss), .sh (luD lu), .ok (tabD (tsOf ts) (sumT lu ts)), .sh (.str (tS s.t)), .sh (.int s.f), .sh (.int s.u), .sh (.int (s.r : Nat))]) (wa := wC (.int 0)) (wb := wVar 6) (wc := w1 fLen (wRd 1)) (x := 0) (y := (s.r : Nat)) (z := 2) (fun _ h => h) (fun _ h => h) (fun _ h => h) ?_
    rw [decide_eq_true (by omega : (0 : Int) ≤ (s.r : Nat)), decide_eq_true (by omega : ((s.r : Nat) : Int) < 2)]
    refine U.no (b := !(true && true)) rfl ?_
    have e : (lookK (tabD (tsOf ts) (sumT lu ts)) (kT s.t)).getD (.int 0) = .int (sumT lu ts s.t) := by
      rw [look_tab]
      by_cases c : s.t ∈ tsOf ts
      · rw [if_pos c]; rfl
      · rw [if_neg c, sum_not (Bool.eq_false_iff.mpr fun z => c (((tsOf_spec ts).2 _).mpr z))]; rfl
    dsimp only [sNil]
    refine put_of (i := 2) (ρ := [.sh (ssD ss), .sh (luD lu), .ok (tabD (tsOf ts) (sumT lu ts)), .sh (.str (tS s.t)), .sh (.int s.f), .sh (.int s.u), .sh (.int (s.r : Nat))]) rfl ?_
    refine dget_of (i := 2) (ρ := [.sh (ssD ss), .sh (luD lu), .ok (tabD (tsOf ts) (sumT lu ts)), .sh (.str (tS s.t)), .sh (.int s.f), .sh (.int s.u), .sh (.int (s.r : Nat))]) (wk := wVar 3) (wx := wC (.int 0)) (key := kT s.t) rfl (fun _ h => h) (fun _ h => h) rfl ?_
    rw [e]
    refine ⟨trivial, ?_⟩
    refine at_lu h4 ?_
    have hlx := lx_ok hu s.r
    refine ⟨cmul (show -1000 ≤ s.u - s.f ∧ s.u - s.f ≤ 1000 by omega), ?_⟩
    · refine ⟨kT s.t, rfl, U.lt_size ?_, ?_⟩
      · have := tsOf_len ts
        unfold tabD
        rw [List.length_map]
        omega
      · have := hN [.sh (ssD ss), .sh (luD lu), .ok (tabD (addT (tsOf ts) s.t) (sumT lu (ts ++ [s]))), .sh (.str (tS s.t)), .sh (.int s.f), .sh (.int s.u), .sh (.int (s.r : Nat))] ⟨_, _, _, _, rfl⟩
        have e3 : putD (tabD (tsOf ts) (sumT lu ts)) (kT s.t) (.int (sumT lu ts s.t + (s.u - s.f) * lx lu s.r)) = tabD (addT (tsOf ts) s.t) (sumT lu (ts ++ [s])) := by
          rw [put_tab]
          congr 1
          funext x
          rw [sum_app]
          by_cases c : x = s.t
          · subst c; rw [if_pos rfl, if_pos rfl]; rfl
          · rw [if_neg c, if_neg (Ne.symm c), Int.add_zero]
        rw [← e3] at this
        exact this
  · obtain ⟨s3, s4, s5, s6, rfl⟩ := hI
    rw [List.take_length]
    obtain ⟨n1, n2⟩ := tsOf_spec ss
    have si := side_si ((tsOf ss).map fun t => (tS t, sumT lu ss t))
    rw [← tab_items] at si
    refine ⟨fun p hp => ?_, si.2.2.1, si.2.2.2, ?_⟩
    · unfold tabD at hp
      obtain ⟨t, _, rfl⟩ := List.mem_map.mp hp
      rfl
    · rw [sort_tab (sumT lu ss) n1 (hasT ss) n2]
      refine ⟨?_, h⟩
      show NK ((bornL lu ss).map fun c => Datum.toD c)
      cases e : (bornL lu ss).map fun c => Datum.toD c with
      | nil => exact .inl rfl
      | cons d r =>
        refine .inr ⟨d, List.mem_cons_self, fun k z => ?_⟩
        have : d ∈ (bornL lu ss).map fun c => Datum.toD c := by rw [e]; exact List.mem_cons_self
        obtain ⟨c, _, rfl⟩ := List.mem_map.mp this
        cases k <;> cases z
theorem dictP_of {w : PW} {ρ : En} {Q : PyData → Prop} {E : Exn → Prop} {ds : List PyData} {ps : List (Key × PyData)} (hw : ∀ F : PyData → Prop, F (.tuple ds) → w ρ F E) (e : pairsD ds = some ps) (h : Q (dictD ps)) : wDictP w ρ Q E := by
  unfold wDictP
  refine hw _ ?_
  dsimp only
  rw [e]
  exact h
theorem dictL_of {w : PW} {ρ : En} {Q : PyData → Prop} {E : Exn → Prop} {ds : List PyData} {ps : List (Key × PyData)} (hw : ∀ F : PyData → Prop, F (.list ds) → w ρ F E) (e : pairsD ds = some ps) (h : Q (dictD ps)) : wDictP (wOnlyL w) ρ Q E := by
  unfold wDictP wOnlyL
  refine hw _ ?_
  dsimp only
  rw [e]
  exact h
theorem vget_of {wo wk wx : PW} {ρ : En} {Q : PyData → Prop} {E : Exn → Prop} {kvs : List (Key × PyData)} {k x y : PyData} (ho : ∀ F : PyData → Prop, F (dictD kvs) → wo ρ F E) (hk : ∀ F : PyData → Prop, F k → wk ρ F E) (hx : ∀ F : PyData → Prop, F x → wx ρ F E)
    (e : ∃ o, atSl (.sh (dictD kvs)) k = some o ∧ o.getD x = y) (hQ : Q y) : wVGet wo wk wx ρ Q E := by
  obtain ⟨o, e1, e2⟩ := e
  unfold wVGet
  refine ho _ ?_
  unfold dictD at e1 ⊢
  dsimp only
  refine hk _ (hx _ ?_)
  rw [e1]
  unfold dGet
  dsimp only
  rw [e2]
  exact hQ
theorem p_days (a : Ad) (lu : Int × Int) (ss : List Sh) (ok : OkS ss) (hu : OkL lu) (hl : ss.length ≤ 10) (m : Int) (r : Nat) (hr : r < 2) (Q : PyData → Prop) (E : Exn → Prop) (h1 : m < sumT lu ss true → E ⟨a.x_NoWay, none⟩)
    (h2 : sumT lu ss true ≤ m → lx lu r = 0 → Q .none) (h3 : sumT lu ss true ≤ m → 0 < lx lu r → Q (.int ((m - sumT lu ss true) / lx lu r))) : c_days_left a [.sh (ssD ss), .sh (luD lu), .sh (.str (tS true)), .sh (.int m), .sh (.int (r : Nat))] Q E := by
  show u_days_left a [.sh (ssD ss), .sh (luD lu), .sh (.str (tS true)), .sh (.int m), .sh (.int (r : Nat)), .un] _
  rw [u_days_left_parts]
  dsimp only [sSeq, v_days_left_0, sIf, wNot, wT]
  refine ch_of (ρ := [.sh (ssD ss), .sh (luD lu), .sh (.str (tS true)), .sh (.int m), .sh (.int (r : Nat)), .un]) (wa := wC (.int 0)) (wb := wVar 4) (wc := w1 fLen (wRd 1)) (x := 0) (y := (r : Nat)) (z := 2) (fun _ h => h) (fun _ h => h) (fun _ h => h) ?_
  rw [decide_eq_true (by omega : (0 : Int) ≤ (r : Nat)), decide_eq_true (by omega : ((r : Nat) : Int) < 2)]
  refine U.no (b := !(true && true)) rfl ?_
  dsimp only [sNil, v_days_left_1, sSet]
  refine vget_of (kvs := tabD (thL ss) (sumT lu ss)) (k := .str (tS true)) (x := .int 0) (fun F hF => dictP_of (ds := (bornL lu ss).map fun c => Datum.toD c) (fun F2 hF2 => ⟨rfl, p_borne a lu ss ok hu hl _ _ hF2⟩) (pairs_born (sumT lu ss) (thL ss)) hF) (fun _ h => h) (fun _ h => h) (get_born (sumT lu ss) (hasT ss) (fun t h => sum_not h) true) ?_
  refine U.brD (p := m < sumT lu ss true) h1 (fun c => ?_)
  have c : sumT lu ss true ≤ m := by omega
  refine at_lu hr ?_
  have hx := lx_ok hu r
  refine ⟨⟨U.pl_int _, U.pl_int _⟩, ?_⟩
  refine U.br (b := PyData.eqv (.int (lx lu r)) (.int 0)) (fun e => ?_) (fun e => ?_)
  · rw [U.eqv_int, decide_eq_true_eq] at e
    exact h2 c e
  · rw [U.eqv_int, decide_eq_false_iff_not] at e
    refine ⟨trivial, at_lu hr ⟨cdiv (by omega) (by omega), h3 c (by omega)⟩⟩
theorem lt_of {c : Int → Int → Bool} {wa wb : PW} {ρ : En} {F : Bool → Prop} {E : Exn → Prop} {x y : Int} (ha : ∀ F : PyData → Prop, F (.int x) → wa ρ F E) (hb : ∀ F : PyData → Prop, F (.int y) → wb ρ F E) (h : F (c x y)) : wT (w2 (fC c) wa wb) ρ F E := ha _ (hb _ h)
/-! turns -/
def rowI (n p d : Nat) : List Int := (rowU n p d).map fun k : Nat => (k : Int)
def rowS (n p d : Nat) : List Int := (rowI n p d).mergeSort fun a b => decide (a ≤ b)
def tnD (n p t : Nat) : List PyData := (List.range t).map fun d => .tuple ((rowS n p d).map .int)
theorem p_turns (a : Ad) (n p t : Nat) (m : Int) (h0 : 0 < n) (h5 : n < 6) (hp : p ≤ n) (ht : t < 9) (Q : PyData → Prop) (E : Exn → Prop) (h1 : m < ceilN n p t → E ⟨a.x_NoWay, none⟩) (h2 : (ceilN n p t : Int) ≤ m → Q (.tuple (tnD n p t))) :
    c_by_turns a [.sh (.int (n : Nat)), .sh (.int (p : Nat)), .sh (.int (t : Nat)), .sh (.int m)] Q E := by
  show u_by_turns a [.sh (.int (n : Nat)), .sh (.int (p : Nat)), .sh (.int (t : Nat)), .sh (.int m), .un, .un, .un] _
  rw [u_by_turns_parts]
  refine U.noD (p := (n : Int) < (p : Int)) (by omega) ?_
  refine lt_of (ρ := [.sh (.int (n : Nat)), .sh (.int (p : Nat)), .sh (.int (t : Nat)), .sh (.int m), .un, .un, .un]) (wa := wRd 1) (wb := wC (.int 0)) (x := (p : Nat)) (y := 0) (fun _ h => h) (fun _ h => h) ?_
  refine U.noD (p := (p : Int) < 0) (by omega) ?_
  refine ⟨U.noown rfl, ⟨by omega, by omega⟩, ?_⟩
  rw [show (t : Int).toNat = t by omega, U.range0]
  refine U.lc_map (enc := fun d : Nat => PyData.int (d : Nat)) (enco := fun d : Nat => PyData.tuple ((rowS n p d).map .int)) (List.range t) id (fun d hd Y hY => ?_) (by rw [List.length_range]; omega) ?_
  · rw [List.mem_range] at hd
    refine ⟨U.noown rfl, ⟨by omega, by omega⟩, ?_⟩
    rw [show (p : Int).toNat = p by omega, U.range0]
    refine U.lc_map (enc := fun k : Nat => PyData.int (k : Nat)) (enco := PyData.int) (List.range p) (fun k => (((d * p + k) % n : Nat) : Int)) (fun k hk Z hZ => ?_) (by rw [List.length_range]; omega) ?_
    · refine ⟨cmul (by omega), ?_⟩
      refine ⟨show (0 : Int) < (n : Int) by omega, ?_⟩
      rw [Int.natCast_emod, Int.natCast_add, Int.natCast_mul] at hZ
      exact hZ
    · have e : (List.range p).map (fun k => (((d * p + k) % n : Nat) : Int)) = rowI n p d := by
        unfold rowI rowU
        rw [List.map_map]
        rfl
      rw [e]
      refine ⟨U.sort_side_ints _, ?_⟩
      rw [U.sort_ints]
      exact hY
  · rw [List.map_id]
    dsimp only [v_by_turns_2, sSeq, sIf, wAnd]
    refine lt_of (ρ := [.sh (.int (n : Nat)), .sh (.int (p : Nat)), .sh (.int (t : Nat)), .sh (.int m), .ol (tnD n p t), .un, .un]) (wa := wRd 0) (wb := wC (.int 0)) (x := (n : Nat)) (y := 0) (fun _ h => h) (fun _ h => h) ?_
    refine U.yesD (p := (0 : Int) < (n : Int)) (by omega) ?_
    refine ⟨cmul (by omega), cdiv (by omega) (by omega), ?_⟩
    have e := ceil_int (n := n) (p := p) (t := t) h0 h5
    refine U.brD (p := m < -(-(t : Int) * (p : Int) / (n : Int))) (fun c => ?_) (fun c => ?_)
    · rw [e] at c
      exact h1 c
    · rw [e] at c
      exact h2 (by omega)
end M14
set_option Elab.async false
set_option linter.all false
set_option maxRecDepth 100000
set_option maxHeartbeats 1000000
local macro_rules | `(tactic| walk_at "sz") => `(tactic| first | omega | (simp only [List.length_map, List.length_cons, List.length_nil, List.length_append, List.length_range, List.length_zipIdx] <;> omega))
local macro_rules | `(tactic| walk_at "pl") => `(tactic| first | exact U.pl_int _ | exact U.pl_str _ | exact U.pl_none | exact U.pl_bool _)
local macro_rules | `(tactic| walk_at "side") => `(tactic| first | exact True.intro | with_reducible exact rfl | exact U.le_size (by walk_at "sz") | exact U.lt_size (by walk_at "sz") | exact And.intro (by walk_at "pl") (by walk_at "pl") | exact And.intro (by walk_at "sz") (by walk_at "sz") | exact Or.inl (And.intro (by walk_at "sz") (by walk_at "sz")) | exact Or.inr (And.intro (by walk_at "sz") (by walk_at "sz")) | exact And.intro (by decide +kernel) (U.le_size (by walk_at "sz")) | walk_at "sz")
local macro_rules | `(tactic| walk_at "wp") => `(tactic| ((conv => whnf); (try dsimp only); repeat (refine And.intro (by walk_at "side") ?_; (conv => whnf); (try dsimp only))))
namespace M14
open PySem PySem.Spec PyProof.Rows L2 PL SG S14 KSet
open PySem.W (Datum DatumOrd Tup)
abbrev EB (s1 s2 s3 s4 s5 s6 s7 s8 s9 s10 s11 s12 s13 s14 s15 s16 : Sl) : En := [.dice, s1, s2, s3, s4, s5, s6, s7, s8, s9, s10, s11, s12, s13, s14, s15, s16, .un, .un, .un, .un]
theorem nat_of {x : Int} (h : 0 ≤ x) : ∃ n : Nat, x = (n : Int) := ⟨x.toNat, by omega⟩
theorem at_xy {r : Int} (h0 : 0 ≤ r) (h1 : r < 2) {Y : PyData → Prop} (hY : Y (.str (tS (decide (r = 0))))) : fIx (.str "xy") (.int r) Y := by
  have : r = 0 ∨ r = 1 := by omega
  rcases this with rfl | rfl
  · exact ⟨U.le_size (by decide), hY⟩
  · exact ⟨U.le_size (by decide), hY⟩
theorem xy_signs : signsD "xy" = [true, false].map fun t => PyData.str (tS t) := rfl
/-- the shows are rolled -/
theorem l_shows (a : Ad) (lu : Int × Int) (D : PEn) (n : Nat) (hn : n ≤ 5)
    (hD : ∀ ss s3 s4, OkS ss → ss.length ≤ 5 → s4.owned = false → D.nx (EB (.ol (ss.map shD)) (.sh (luD lu)) s3 s4 .un .un .un .un .un .un .un .un .un .un .un .un)) :
    goFor g__law_light_0 (b__law_light_0 a) D (rangeD 0 n) (EB (.ol []) (.sh (luD lu)) .un .un .un .un .un .un .un .un .un .un .un .un .un .un) := by
  refine U.for_rng n (fun i ρ => ∃ ss s3 s4, OkS ss ∧ ss.length = i ∧ s4.owned = false ∧ ρ = EB (.ol (ss.map shD)) (.sh (luD lu)) s3 s4 .un .un .un .un .un .un .un .un .un .un .un .un) (fun i ρ N hN hi hI => ?_) (fun ρ hI => ?_) _ ⟨([] : List Sh), Sl.un, Sl.un, (fun s hs => by cases hs), rfl, rfl, rfl⟩
  · obtain ⟨ss, s3, s4, ok, hl, o4, rfl⟩ := hI
    refine ⟨rfl, rfl, p_roll a 9 _ _ (by omega) (by omega) fun f f0 f1 => ?_⟩
    refine ⟨rfl, rfl, p_roll a 2 _ _ (by omega) (by omega) fun x x0 x1 => ?_⟩
    refine at_xy x0 x1 ?_
    refine ⟨rfl, rfl, p_roll a 5 _ _ (by omega) (by omega) fun y y0 y1 => ?_⟩
    refine ⟨rfl, rfl, p_roll a 2 _ _ (by omega) (by omega) fun z z0 z1 => ?_⟩
    obtain ⟨r, rfl⟩ := nat_of z0
    refine ⟨U.le_size (show 4 ≤ 100000 by omega), U.lt_size (by rw [List.length_map]; omega), ?_⟩
    have := hN (EB (.ol ((ss ++ [(⟨decide (x = 0), f, f + 1 + y, r⟩ : Sh)]).map shD)) (.sh (luD lu)) (.sh (.int (i : Nat))) (.sh (.int f)) .un .un .un .un .un .un .un .un .un .un .un .un) ⟨_, _, _, (fun s hs => by
      rcases List.mem_append.mp hs with hs | hs
      · exact ok s hs
      · rw [List.mem_singleton] at hs
        subst hs
        exact ⟨f0, by show f < f + 1 + y; omega, by show f + 1 + y ≤ 14; omega, by show r < 2; omega⟩), by rw [List.length_append, hl]; rfl, rfl, rfl⟩
    rw [List.map_append] at this
    exact this
  · obtain ⟨ss, s3, s4, ok, hl, o4, rfl⟩ := hI
    exact hD ss s3 s4 ok (by omega) o4
theorem fm_amt (lu : Int × Int) (t : Bool) : ∀ ss : List Sh, (ss.filterMap fun s => if s.t = t then some (amt lu s) else none) = (ss.filter fun s => decide (s.t = t)).map (amt lu)
  | [] => rfl
  | s :: r => by
    by_cases c : s.t = t
    · rw [List.filterMap_cons_some (by rw [if_pos c]), List.filter_cons_of_pos (by rw [decide_eq_true c]), fm_amt lu t r]; rfl
    · rw [List.filterMap_cons_none (by rw [if_neg c]), List.filter_cons_of_neg (by rw [decide_eq_false c]; decide), fm_amt lu t r]
theorem fm_one (t : Bool) : ∀ ss : List Sh, (!decide ((ss.filterMap fun s => if s.t = t then some (1 : Int) else none) = [])) = hasT ss t
  | [] => rfl
  | s :: r => by
    unfold hasT
    by_cases c : s.t = t
    · rw [List.filterMap_cons_some (by rw [if_pos c]), List.any_cons, decide_eq_true c]; rfl
    · rw [List.filterMap_cons_none (by rw [if_neg c]), List.any_cons, decide_eq_false c, fm_one t r]; rfl
theorem rep_one (b : Bool) (d : PyData) : (List.replicate (if b then (1 : Int) else 0).toNat [d]).flatten = if b then [d] else [] := by
  cases b <;> rfl
/-- what each bears -/
theorem l_table (a : Ad) (lu : Int × Int) (hu : OkL lu) (ss : List Sh) (ok : OkS ss) (hl : ss.length ≤ 5) (D : PEn) (s3 s4 : Sl) (o4 : s4.owned = false)
    (hD : ∀ s1 s4 s6 s7, (s1 = .ol (ss.map shD) ∨ s1 = .sh (ssD ss)) → D.nx (EB s1 (.sh (luD lu)) s3 s4 (.sh (.list ((bornL lu ss).map fun c => Datum.toD c))) s6 s7 .un .un .un .un .un .un .un .un .un)) :
    goFor g__law_light_1 (b__law_light_1 a) D (signsD "xy") (EB (.ol (ss.map shD)) (.sh (luD lu)) s3 s4 (.sh (.list [])) .un .un .un .un .un .un .un .un .un .un .un) := by
  rw [xy_signs]
  refine U.for_list (enc := fun t => PyData.str (tS t)) [true, false] (fun i ρ => ∃ s1 s6 s7, (s1 = .ol (ss.map shD) ∨ s1 = .sh (ssD ss)) ∧ ρ = EB s1 (.sh (luD lu)) s3 s4 (.sh (.list (((([true, false].take i).filter (hasT ss)).map (bornP lu ss)).map fun c => Datum.toD c))) s6 s7 .un .un .un .un .un .un .un .un .un) (fun i t ρ N hN hx hi hI => ?_) (fun ρ hI => ?_) _ ⟨_, _, _, .inl rfl, rfl⟩
  · obtain ⟨s1, s6, s7, h1, rfl⟩ := hI
    rw [show [true, false].take (i + 1) = [true, false].take i ++ [t] by rw [List.take_add_one, hx]; rfl, List.filter_append, List.map_append, List.map_append] at hN
    have hlt : ((([true, false].take i).filter (hasT ss)).map (bornP lu ss)).length ≤ 2 := by
      rw [List.length_map]
      refine Nat.le_trans (List.length_filter_le _ _) ?_
      rw [List.length_take]
      simp only [List.length_cons, List.length_nil]
      omega
    generalize ((([true, false].take i).filter (hasT ss)).map (bornP lu ss)) = tb at hN hlt ⊢
    have main : ∀ ρ : En, ρ = EB (.sh (ssD ss)) (.sh (luD lu)) s3 s4 (.sh (.list (tb.map fun c => Datum.toD c))) (.sh (.str (tS t))) s7 .un .un .un .un .un .un .un .un .un → (sSeq (sSet 7 (w1 fSum (wLc (wItL (wVar 1)) (gTupD 4 (gConsD (gNameD 17) (gConsD (gNameD 4) (gConsD (gNameD 18) (gConsD (gNameD 9) gNilD))))) (wT (w2 (fEq false) (wRd 17) (wRd 6))) (w2 fMul (w2 (fI CT fun i j => i - j) (wRd 18) (wRd 4)) (w2 fIx (wRd 2) (wRd 9))) [17, 4, 18, 9])))
 (sFrz 1 (sSet 5 (w2 fCat (wRd 5) (w2 fRep (wLst (wCons (wTup (wCons (wVar 6) (wCons (wVar 7) wNil))) wNil)) (w1 fInt (w2 (fEq true) (wLc (wItL (wVar 1)) (gNameD 19) (wT (w2 (fEq false) (w2 fIx (wRd 19) (wC (.int 0))) (wRd 6))) (wC (.int 1)) [19]) (wLst wNil)))))))) ρ { D with nx := N, ct := N, bk := D.nx } := fun ρ e => by
      subst e
      refine ⟨U.noown (by show (!Sl.un.owned && (!s4.owned && (!Sl.un.owned && (!Sl.un.owned && true)))) = true; rw [o4]; rfl), ?_⟩
      refine U.lc_all (enc := shD) (enco := PyData.int) ss (fun s => if s.t = t then some (amt lu s) else none) (fun s hs Y M hY hM => ?_) (by omega) ?_
      · obtain ⟨_, h2, h3, h4⟩ := ok s hs
        refine ⟨rfl, rfl, ⟨U.pl_str _, U.pl_str _⟩, ?_⟩
        refine U.br (b := PyData.eqv (.str (tS s.t)) (.str (tS t))) (fun c => ?_) (fun c => ?_)
        · rw [eqv_tS, decide_eq_true_eq] at c
          refine ⟨trivial, at_lu h4 ⟨cmul (show -1000 ≤ s.u - s.f ∧ s.u - s.f ≤ 1000 by have := (ok s hs).1; omega), hY (amt lu s) (if_pos c)⟩⟩
        · rw [eqv_tS, decide_eq_false_iff_not] at c
          exact hM (if_neg c)
      · rw [fm_amt]
        unfold fSum
        dsimp only
        rw [allInts_map]
        dsimp only
        rw [← sum_filter]
        dsimp only [sFrz]
        refine ⟨U.le_size (show 2 ≤ 100000 by omega), U.le_size (show 1 ≤ 100000 by omega), ?_⟩
        refine ⟨U.noown rfl, ?_⟩
        refine U.lc_all (enc := shD) (enco := PyData.int) ss (fun s => if s.t = t then some 1 else none) (fun s hs Y M hY hM => ?_) (by omega) ?_
        · refine ⟨⟨U.pl_str _, U.pl_str _⟩, ?_⟩
          refine U.br (b := PyData.eqv (.str (tS s.t)) (.str (tS t))) (fun c => ?_) (fun c => ?_)
          · rw [eqv_tS, decide_eq_true_eq] at c
            exact hY 1 (if_pos c)
          · rw [eqv_tS, decide_eq_false_iff_not] at c
            exact hM (if_neg c)
        · refine ⟨Nat.zero_le _, ⟨U.PlD (ss.filterMap fun s => if s.t = t then some (1 : Int) else none), U.PlD ([] : List Int)⟩, ?_⟩
          have e2 : (!PyData.eqv (.list ((ss.filterMap fun s => if s.t = t then some (1 : Int) else none).map PyData.int)) (.list [])) = hasT ss t := by
            have := Datum.eqv (ss.filterMap fun s => if s.t = t then some (1 : Int) else none) ([] : List Int)
            have e3 : PyData.eqv (.list ((ss.filterMap fun s => if s.t = t then some (1 : Int) else none).map PyData.int)) (.list []) = decide ((ss.filterMap fun s => if s.t = t then some (1 : Int) else none) = []) := this
            rw [e3]
            exact fm_one t ss
          show fRep (.list [.tuple [.str (tS t), .int (sumT lu ss t)]]) (.int (if (!PyData.eqv (.list ((ss.filterMap fun s => if s.t = t then some (1 : Int) else none).map PyData.int)) (.list [])) = true then 1 else 0)) (fun y => fCat (.list (tb.map fun c => Datum.toD c)) y fun d => N (EB (.sh (ssD ss)) (.sh (luD lu)) s3 s4 (.sh d) (.sh (.str (tS t))) (.sh (.int (sumT lu ss t))) .un .un .un .un .un .un .un .un .un))
          rw [e2]
          refine ⟨⟨by split <;> omega, by split <;> omega, U.le_size (by split <;> simp)⟩, ?_⟩
          rw [rep_one]
          have hN := hN _ ⟨.sh (ssD ss), .sh (.str (tS t)), .sh (.int (sumT lu ss t)), .inr rfl, rfl⟩
          cases c : hasT ss t with
          | true =>
            rw [List.filter_cons_of_pos c] at hN
            refine ⟨U.le_size (by rw [List.length_map]; show _ + 1 ≤ _; omega), hN⟩
          | false =>
            rw [List.filter_cons_of_neg (by rw [c]; decide)] at hN
            refine ⟨U.le_size (by rw [List.length_map]; show _ + 0 ≤ _; omega), hN⟩
    rcases h1 with rfl | rfl
    · exact main _ rfl
    · exact main _ rfl
  · obtain ⟨s1, s6, s7, h1, rfl⟩ := hI
    exact hD _ _ _ _ h1
end M14
set_option Elab.async false
set_option linter.all false
set_option maxRecDepth 100000
set_option maxHeartbeats 1000000
local macro_rules | `(tactic| walk_at "sz") => `(tactic| first | omega | (simp only [List.length_map, List.length_cons, List.length_nil, List.length_append, List.length_range, List.length_zipIdx] <;> omega))
local macro_rules | `(tactic| walk_at "pl") => `(tactic| first | exact U.pl_int _ | exact U.pl_str _ | exact U.pl_none | exact U.pl_bool _)
local macro_rules | `(tactic| walk_at "side") => `(tactic| first | exact True.intro | with_reducible exact rfl | exact U.le_size (by walk_at "sz") | exact U.lt_size (by walk_at "sz") | exact And.intro (by walk_at "pl") (by walk_at "pl") | exact And.intro (by walk_at "sz") (by walk_at "sz") | exact Or.inl (And.intro (by walk_at "sz") (by walk_at "sz")) | exact Or.inr (And.intro (by walk_at "sz") (by walk_at "sz")) | exact And.intro (by decide +kernel) (U.le_size (by walk_at "sz")) | walk_at "sz")
local macro_rules | `(tactic| walk_at "wp") => `(tactic| ((conv => whnf); (try dsimp only); repeat (refine And.intro (by walk_at "side") ?_; (conv => whnf); (try dsimp only))))
namespace M14
open PySem PySem.Spec PyProof.Rows L2 PL SG S14 KSet
open PySem.W (Datum DatumOrd Tup)
theorem any_int {l : List Int} (x : Int) : ((l.map PyData.int).any fun z => PyData.eqv z (.int x)) = decide (x ∈ l) := by
  rw [List.any_map]
  have e : ((fun z => PyData.eqv z (.int x)) ∘ PyData.int) = fun q => decide (q = x) := by
    funext q
    exact U.eqv_int q x
  rw [e]
  cases c : decide (x ∈ l) with
  | true => exact List.any_eq_true.mpr ⟨x, of_decide_eq_true c, decide_eq_true rfl⟩
  | false =>
    rw [List.any_eq_false]
    intro q hq
    rw [decide_eq_true_eq]
    rintro rfl
    exact of_decide_eq_false c hq
theorem mem_rowS {n p d one : Nat} : (one : Int) ∈ rowS n p d ↔ one ∈ rowU n p d := by
  unfold rowS rowI
  rw [(List.mergeSort_perm _ _).mem_iff, List.mem_map]
  exact ⟨fun ⟨x, hx, e⟩ => by rw [show one = x by omega]; exact hx, fun h => ⟨one, h, rfl⟩⟩
theorem rowS_len (n p d : Nat) : (rowS n p d).length = p := by
  unfold rowS rowI rowU
  rw [List.length_mergeSort, List.length_map, List.length_map, List.length_range]
theorem rowS_sorted (n p d : Nat) : (rowS n p d).mergeSort (fun a b => decide (a ≤ b)) = rowS n p d := by
  refine List.mergeSort_of_pairwise ?_
  unfold rowS
  exact List.pairwise_mergeSort (le := fun (a b : Int) => decide (a ≤ b)) (fun a b c x y => by simp only [decide_eq_true_eq] at *; omega) (fun a b => by simp only [Bool.or_eq_true, decide_eq_true_eq]; omega) _
theorem fm_len (q : Nat → Prop) [DecidablePred q] : ∀ l : List Nat, (l.filterMap fun d => if q d then some (1 : Int) else none).length = (l.filter fun d => decide (q d)).length
  | [] => rfl
  | d :: l => by
    by_cases c : q d
    · rw [List.filterMap_cons_some (by rw [if_pos c]), List.filter_cons_of_pos (by rw [decide_eq_true c]), List.length_cons, List.length_cons, fm_len q l]
    · rw [List.filterMap_cons_none (by rw [if_neg c]), List.filter_cons_of_neg (by rw [decide_eq_false c]; decide), fm_len q l]
theorem tnD_pl (n p t : Nat) : Pl (.tuple (tnD n p t)) := by
  have := U.PlD (⟨(List.range t).map fun d => (⟨rowS n p d⟩ : Tup Int)⟩ : Tup (Tup Int))
  have e : Datum.toD (⟨(List.range t).map fun d => (⟨rowS n p d⟩ : Tup Int)⟩ : Tup (Tup Int)) = .tuple (tnD n p t) := by
    show PyData.tuple (((List.range t).map fun d => (⟨rowS n p d⟩ : Tup Int)).map fun x => Datum.toD x) = _
    rw [List.map_map]
    rfl
  rwa [e] at this
theorem tnD_refl (n p t : Nat) : PyData.eqv (.tuple (tnD n p t)) (.tuple (tnD n p t)) = true := by
  have e : Datum.toD (⟨(List.range t).map fun d => (⟨rowS n p d⟩ : Tup Int)⟩ : Tup (Tup Int)) = .tuple (tnD n p t) := by
    show PyData.tuple (((List.range t).map fun d => (⟨rowS n p d⟩ : Tup Int)).map fun x => Datum.toD x) = _
    rw [List.map_map]
    rfl
  rw [← e, Datum.eqv]
  exact decide_eq_true rfl
theorem told1 (a : Ad) : toldRet (hsT a) a.x_NoWay = some ("no way" : Str) := by
  simp [toldRet, hsT]
def ofI (n p t : Nat) : List Int := (oftL n p t).map fun c : Nat => (c : Int)
theorem ofI_sum (n p t : Nat) : (ofI n p t).sum = (((oftL n p t).sum : Nat) : Int) := by
  unfold ofI
  generalize oftL n p t = l
  induction l with
  | nil => rfl
  | cons x r ih => rw [List.map_cons, List.sum_cons, List.sum_cons, ih, Int.natCast_add]
theorem ofI_cons {n p t : Nat} (h0 : 0 < n) : ∃ x xs, ofI n p t = x :: xs := by
  unfold ofI oftL
  obtain ⟨m, rfl⟩ : ∃ m, n = m + 1 := ⟨n - 1, by omega⟩
  rw [List.range_succ_eq_map]
  exact ⟨_, _, rfl⟩
theorem ofI_ex {n p t : Nat} (h0 : 0 < n) (h5 : n < 6) (hp : p ≤ n) (ht : t < 9) {x : Int} {xs : List Int} (e : ofI n p t = x :: xs) :
    PySem.W.maxOf x xs = (ceilN n p t : Nat) ∧ (ceilN n p t : Int) ≤ PySem.W.minOf x xs + 1 ∧ PySem.W.minOf x xs ≤ (ceilN n p t : Nat) := by
  obtain ⟨h1, h2, h3⟩ := turns_all h0 h5 hp ht
  have hm : ∀ y ∈ x :: xs, y ≤ (ceilN n p t : Nat) ∧ (ceilN n p t : Int) ≤ y + 1 := fun y hy => by
    rw [← e] at hy
    unfold ofI at hy
    obtain ⟨c, hc, rfl⟩ := List.mem_map.mp hy
    obtain ⟨g1, g2⟩ := h3 c hc
    omega
  have hk : (ceilN n p t : Int) ∈ x :: xs := by
    rw [← e]
    exact List.mem_map_of_mem h2
  have a1 := hm _ (U.maxOf_mem x xs)
  have a2 := U.maxOf_int x xs _ hk
  have a3 := hm _ (U.minOf_mem x xs)
  exact ⟨by omega, a3.2, a3.1⟩
theorem l_turns (a : Ad) (s1 s2 s3 s4 s5 s6 s7 s8 s9 s10 s11 : Sl) (Q : PyData → Prop) (E : Exn → Prop) (h : Q (.bool true)) :
    (sSeq (v__law_light_9 a) (sSeq (v__law_light_10 a) (sSeq (v__law_light_11 a) (sSeq (v__law_light_12 a) (sSeq (v__law_light_13 a) (sSeq (v__law_light_14 a) (sSeq (v__law_light_15 a) (sSeq (v__law_light_16 a) (v__law_light_17 a)))))))))
      (EB s1 s2 s3 s4 s5 s6 s7 s8 s9 s10 s11 .un .un .un .un .un) { nx := fun _ => Q .none, rt := Q, ex := E } := by
  refine ⟨rfl, rfl, p_roll a 5 _ _ (by omega) (by omega) fun x x0 x1 => ?_⟩
  refine ⟨rfl, rfl, p_roll a 9 _ _ (by omega) (by omega) fun t t0 t1 => ⟨rfl, ?_⟩⟩
  obtain ⟨t, rfl⟩ := nat_of t0
  obtain ⟨n, en⟩ : ∃ n : Nat, 1 + x = (n : Int) := ⟨(1 + x).toNat, by omega⟩
  show sSeq (v__law_light_10 a) _ (EB s1 s2 s3 s4 s5 s6 s7 s8 s9 s10 s11 (.sh (.int (1 + x))) (.sh (.int (t : Nat))) .un .un .un) _
  rw [en]
  have hn0 : 0 < n := by omega
  have hn5 : n < 6 := by omega
  refine ⟨rfl, rfl, p_roll a ((n : Int) + 1) _ _ (by omega) (by omega) fun p p0 p1 => ?_⟩
  obtain ⟨p, rfl⟩ := nat_of p0
  have hp : p ≤ n := by omega
  have ht : t < 9 := by omega
  have hc : ceilN n p t ≤ 99 := by
    unfold ceilN
    have := Nat.mul_le_mul (show t ≤ 8 by omega) (show p ≤ 5 by omega)
    exact Nat.le_trans (Nat.div_le_self _ _) (by omega)
  refine ⟨rfl, p_turns a n p t 99 hn0 hn5 hp ht _ _ (fun c => by omega) fun _ => ?_⟩
  show sSeq (v__law_light_12 a) _ (EB s1 s2 s3 s4 s5 s6 s7 s8 s9 s10 s11 (.sh (.int (n : Nat))) (.sh (.int (t : Nat))) (.sh (.int (p : Nat))) (.sh (.tuple (tnD n p t))) .un) _
  refine ⟨U.noown rfl, ⟨by omega, by omega⟩, ?_⟩
  rw [show (n : Int).toNat = n by omega, U.range0]
  refine U.lc_map (enc := fun one : Nat => PyData.int (one : Nat)) (enco := PyData.int) (List.range n) (fun one => ((oft n p t one : Nat) : Int)) (fun one ho Y hY => ?_) (by rw [List.length_range]; omega) ?_
  · refine ⟨U.noown rfl, ?_⟩
    refine U.lc_all (enc := fun d : Nat => PyData.tuple ((rowS n p d).map .int)) (enco := PyData.int) (List.range t) (fun d => if one ∈ rowU n p d then some 1 else none) (fun d hd Z M hZ hM => ?_) (by rw [List.length_range]; omega) ?_
    · refine ⟨⟨U.pl_int _, U.PlD (⟨rowS n p d⟩ : Tup Int)⟩, ?_⟩
      refine U.br (b := ((rowS n p d).map PyData.int).any fun z => PyData.eqv z (.int (one : Nat))) (fun c => ?_) (fun c => ?_)
      · rw [any_int, decide_eq_true_eq, mem_rowS] at c
        exact hZ 1 (if_pos c)
      · rw [any_int, decide_eq_false_iff_not, mem_rowS] at c
        exact hM (if_neg c)
    · show Y (.int ((((List.range t).filterMap fun d => if one ∈ rowU n p d then some (1 : Int) else none).map PyData.int).length : Nat))
      rw [List.length_map, fm_len (fun d => one ∈ rowU n p d)]
      exact hY
  · have eo : ((List.range n).map fun one => ((oft n p t one : Nat) : Int)) = ofI n p t := by
      unfold ofI oftL
      rw [List.map_map]
      rfl
    rw [eo]
    show sSeq (v__law_light_13 a) _ (EB s1 s2 s3 s4 s5 s6 s7 s8 s9 s10 s11 (.sh (.int (n : Nat))) (.sh (.int (t : Nat))) (.sh (.int (p : Nat))) (.sh (.tuple (tnD n p t))) (.sh (.list ((ofI n p t).map .int)))) _
    have ltn : (tnD n p t).length = t := by unfold tnD; rw [List.length_map, List.length_range]
    -- the rows
    refine ⟨⟨U.pl_int _, U.pl_int _⟩, ?_⟩
    refine U.no (b := !PyData.eqv (.int ((tnD n p t).length : Nat)) (.int (t : Nat))) (by rw [U.eqv_int, ltn, decide_eq_true rfl]; rfl) ?_
    refine ⟨U.noown rfl, ?_⟩
    refine U.lc_filter (enc := fun d : Nat => PyData.tuple ((rowS n p d).map .int)) (List.range t) (fun _ => false) (fun d hd Z M hZ hM => ?_) (by rw [List.length_range]; omega) ?_
    · refine ⟨⟨U.pl_int _, U.pl_int _⟩, ?_⟩
      refine U.no (b := !PyData.eqv (.int (((rowS n p d).map PyData.int).length : Nat)) (.int (p : Nat))) (by rw [U.eqv_int, List.length_map, rowS_len, decide_eq_true rfl]; rfl) ?_
      refine ⟨U.sort_side_ints _, ?_⟩
      rw [U.sort_ints, rowS_sorted]
      refine ⟨⟨U.PlD (rowS n p d), U.PlD (rowS n p d)⟩, ?_⟩
      exact U.brNe (rowS n p d) (rowS n p d) (fun e => absurd rfl e) fun _ => hM rfl
    · rw [show (List.range t).filter (fun _ => false) = [] from List.filter_eq_nil_iff.mpr fun _ _ e => by cases e]
      refine ⟨Nat.zero_le _, ⟨U.PlD ([] : List Int), U.PlD ([] : List Int)⟩, ?_⟩
      refine U.no (b := !PyData.eqv (.list []) (.list [])) rfl ?_
      -- how often
      obtain ⟨x, xs, ex⟩ := ofI_cons (n := n) (p := p) (t := t) hn0
      obtain ⟨m1, m2, m3⟩ := ofI_ex hn0 hn5 hp ht ex
      have hsum := (turns_all hn0 hn5 hp ht).1
      have emax : ∀ F : PyData → Prop, F (.int (ceilN n p t : Nat)) → fMax (.list ((ofI n p t).map .int)) F := fun F hF => by
        refine U.p_maxL (α := Int) ex ?_
        rw [m1]
        exact hF
      show match allInts ((ofI n p t).map .int) with | some ns => _ | none => False
      rw [allInts_map]
      refine ⟨cmul (by omega), ⟨U.pl_int _, U.pl_int _⟩, ?_⟩
      refine U.no (b := !PyData.eqv (.int (ofI n p t).sum) (.int ((t : Int) * (p : Int)))) (by rw [U.eqv_int, ofI_sum, hsum, Int.natCast_mul, decide_eq_true rfl]; rfl) ?_
      refine emax _ ?_
      refine U.p_minL (α := Int) ex ?_
      refine ⟨trivial, ?_⟩
      refine U.noD (p := (1 : Int) < (ceilN n p t : Int) - PySem.W.minOf x xs) (by omega) ?_
      have last : (sSeq (v__law_light_16 a) (v__law_light_17 a)) (EB s1 s2 s3 s4 s5 s6 s7 s8 s9 s10 s11 (.sh (.int (n : Nat))) (.sh (.int (t : Nat))) (.sh (.int (p : Nat))) (.sh (.tuple (tnD n p t))) (.sh (.list ((ofI n p t).map .int)))) { nx := fun _ => Q .none, rt := Q, ex := E } := by
        refine emax _ ?_
        refine ⟨rfl, p_turns a n p t _ hn0 hn5 hp ht _ _ (fun c => by omega) fun _ => ?_⟩
        refine ⟨⟨tnD_pl _ _ _, tnD_pl _ _ _⟩, ?_⟩
        refine U.no (b := !PyData.eqv (.tuple (tnD n p t)) (.tuple (tnD n p t))) (by rw [tnD_refl]; rfl) ?_
        exact h
      refine emax _ ?_
      refine U.brD (p := (0 : Int) < (ceilN n p t : Nat)) (fun c => ?_) (fun c => ?_)
      · refine emax _ ?_
        refine ⟨trivial, rfl, p_turns a n p t _ hn0 hn5 hp ht _ _ (fun _ => ⟨("no way" : Str), List.mem_cons_self, told1 a, ?_⟩) (fun c => by have c : (ceilN n p t : Int) ≤ (ceilN n p t : Int) - 1 := c; omega)⟩
        refine ⟨⟨U.pl_str _, U.pl_str _⟩, ?_⟩
        refine U.no (b := !PyData.eqv (.str "no way") (.str "no way")) (by rw [U.eqv_str, decide_eq_true rfl]; rfl) ?_
        exact last
      · exact U.no rfl last
theorem pl_two : Pl (.list [.str "no way", .none]) := ⟨rfl, by simp [PyData.depth, PyData.depthAll]⟩
theorem CMul_r {x y : Int} (h : -1000 ≤ y ∧ y ≤ 1000) : CMul x y := .inr ⟨by omega, by omega⟩
theorem andV_of {u v : PW} {ρ : En} {Q : PyData → Prop} {E : Exn → Prop} {b : Bool} (hu : ∀ F : PyData → Prop, F (.bool b) → u ρ F E) (h1 : b = true → v ρ Q E) (h0 : b = false → Q (.bool false)) : wAndV u v ρ Q E := by
  refine hu _ ?_
  cases b with
  | true => exact h1 rfl
  | false => exact h0 rfl
/-- most, room and what is had -/
theorem l_told (a : Ad) (lu : Int × Int) (hu : OkL lu) (ss : List Sh) (ok : OkS ss) (hl : ss.length ≤ 5) (s3 s4 s6 s7 : Sl) (m : Int) (m0 : 0 ≤ m) (m1 : m < 60) (r : Nat) (hr : r < 2) (D : PEn)
    (hD : ∀ d, D.nx (EB (.sh (ssD ss)) (.sh (luD lu)) s3 s4 (.sh (.list ((bornL lu ss).map fun c => Datum.toD c))) s6 s7 (.sh (.int m)) (.sh (.int (r : Nat))) (.sh (.int (sumT lu ss true))) (.sh d) .un .un .un .un .un)) :
    (sSeq (v__law_light_6 a) (sSeq (v__law_light_7 a) (v__law_light_8 a))) (EB (.sh (ssD ss)) (.sh (luD lu)) s3 s4 (.sh (.list ((bornL lu ss).map fun c => Datum.toD c))) s6 s7 (.sh (.int m)) (.sh (.int (r : Nat))) (.sh (.int (sumT lu ss true))) .un .un .un .un .un .un) D := by
  have hx := lx_ok hu r
  refine ⟨rfl, p_days a lu ss ok hu (by omega) m r hr _ _ (fun c => ⟨("no way" : Str), List.mem_cons_self, told1 a, ?_⟩) (fun c e => ?_) (fun c e => ?_)⟩
  · -- no way
    refine ⟨⟨U.pl_str _, U.pl_str _⟩, ⟨U.pl_bool _, U.pl_bool _⟩, ?_⟩
    refine U.no (b := !PyData.eqv (.bool (PyData.eqv (.str "no way") (.str "no way"))) (.bool (decide (m < sumT lu ss true)))) (by rw [U.eqv_str, decide_eq_true rfl, decide_eq_true c]; rfl) ?_
    refine ⟨rfl, ?_⟩
    refine andV_of (ρ := EB (.sh (ssD ss)) (.sh (luD lu)) s3 s4 (.sh (.list ((bornL lu ss).map fun c => Datum.toD c))) s6 s7 (.sh (.int m)) (.sh (.int (r : Nat))) (.sh (.int (sumT lu ss true))) (.sh (.str "no way")) .un .un .un .un .un) (u := w2 (fC fun i j => decide (i ≤ j)) (wRd 10) (wRd 8)) (v := w2 (fEq false) (w2 fIx (wRd 2) (wRd 9)) (wC (.int 0))) (b := decide (sumT lu ss true ≤ m)) (fun _ h => h) (fun z => absurd (of_decide_eq_true z) (by omega)) (fun _ => ?_)
    refine ⟨⟨U.pl_bool _, U.pl_bool _⟩, ?_⟩
    refine U.no (b := !PyData.eqv (.bool false) (.bool false)) rfl ?_
    refine ⟨U.le_size (by decide), ⟨U.pl_str _, pl_two⟩, ?_⟩
    refine U.no (b := !([PyData.str "no way", .none].any fun z => PyData.eqv z (.str "no way"))) rfl ?_
    exact hD _
  · -- no end
    refine ⟨⟨U.pl_none, U.pl_str _⟩, ⟨U.pl_bool _, U.pl_bool _⟩, ?_⟩
    refine U.no (b := !PyData.eqv (.bool (PyData.eqv .none (.str "no way"))) (.bool (decide (m < sumT lu ss true)))) (by rw [decide_eq_false (by omega)]; rfl) ?_
    refine ⟨rfl, ?_⟩
    refine andV_of (ρ := EB (.sh (ssD ss)) (.sh (luD lu)) s3 s4 (.sh (.list ((bornL lu ss).map fun c => Datum.toD c))) s6 s7 (.sh (.int m)) (.sh (.int (r : Nat))) (.sh (.int (sumT lu ss true))) (.sh (.none)) .un .un .un .un .un) (u := w2 (fC fun i j => decide (i ≤ j)) (wRd 10) (wRd 8)) (v := w2 (fEq false) (w2 fIx (wRd 2) (wRd 9)) (wC (.int 0))) (b := decide (sumT lu ss true ≤ m)) (fun _ h => h) (fun _ => ?_) (fun z => absurd (of_decide_eq_false z) (by omega))
    refine at_lu hr ?_
    refine ⟨⟨U.pl_int _, U.pl_int _⟩, ⟨U.pl_bool _, U.pl_bool _⟩, ?_⟩
    refine U.no (b := !PyData.eqv (.bool (isN .none)) (.bool (PyData.eqv (.int (lx lu r)) (.int 0)))) (by rw [U.eqv_int, decide_eq_true e]; rfl) ?_
    refine ⟨U.le_size (by decide), ⟨U.pl_none, pl_two⟩, ?_⟩
    refine U.no (b := !([PyData.str "no way", .none].any fun z => PyData.eqv z .none)) rfl ?_
    exact hD _
  · -- so many days
    refine ⟨⟨U.pl_int _, U.pl_str _⟩, ⟨U.pl_bool _, U.pl_bool _⟩, ?_⟩
    refine U.no (b := !PyData.eqv (.bool (PyData.eqv (.int ((m - sumT lu ss true) / lx lu r)) (.str "no way"))) (.bool (decide (m < sumT lu ss true)))) (by rw [decide_eq_false (by omega)]; rfl) ?_
    refine ⟨rfl, ?_⟩
    refine andV_of (ρ := EB (.sh (ssD ss)) (.sh (luD lu)) s3 s4 (.sh (.list ((bornL lu ss).map fun c => Datum.toD c))) s6 s7 (.sh (.int m)) (.sh (.int (r : Nat))) (.sh (.int (sumT lu ss true))) (.sh (.int ((m - sumT lu ss true) / lx lu r))) .un .un .un .un .un) (u := w2 (fC fun i j => decide (i ≤ j)) (wRd 10) (wRd 8)) (v := w2 (fEq false) (w2 fIx (wRd 2) (wRd 9)) (wC (.int 0))) (b := decide (sumT lu ss true ≤ m)) (fun _ h => h) (fun _ => ?_) (fun z => absurd (of_decide_eq_false z) (by omega))
    refine at_lu hr ?_
    refine ⟨⟨U.pl_int _, U.pl_int _⟩, ⟨U.pl_bool _, U.pl_bool _⟩, ?_⟩
    refine U.no (b := !PyData.eqv (.bool (isN (.int ((m - sumT lu ss true) / lx lu r)))) (.bool (PyData.eqv (.int (lx lu r)) (.int 0)))) (by rw [U.eqv_int, decide_eq_false (by omega)]; rfl) ?_
    refine ⟨U.le_size (by decide), ⟨U.pl_int _, pl_two⟩, ?_⟩
    have hq0 := Int.mul_ediv_self_le (x := m - sumT lu ss true) (k := lx lu r) (by omega)
    have hq1 := Int.lt_mul_ediv_self_add (x := m - sumT lu ss true) (k := lx lu r) e
    rw [Int.mul_comm] at hq0 hq1
    generalize hq : (m - sumT lu ss true) / lx lu r = q at hq0 hq1 ⊢
    refine U.yes (b := !([PyData.str "no way", .none].any fun z => PyData.eqv z (.int q))) rfl ?_
    refine ch_of (ρ := EB (.sh (ssD ss)) (.sh (luD lu)) s3 s4 (.sh (.list ((bornL lu ss).map fun c => Datum.toD c))) s6 s7 (.sh (.int m)) (.sh (.int (r : Nat))) (.sh (.int (sumT lu ss true))) (.sh (.int q)) .un .un .un .un .un)
      (wa := w2 fAdd (wRd 10) (w2 fMul (wRd 11) (w2 fIx (wRd 2) (wRd 9)))) (wb := wVar 8) (wc := w2 fAdd (wRd 10) (w2 fMul (w2 fAdd (wRd 11) (wC (.int 1))) (w2 fIx (wRd 2) (wRd 9)))) (x := sumT lu ss true + q * lx lu r) (y := m) (z := sumT lu ss true + (q + 1) * lx lu r)
      (fun F hF => at_lu hr ⟨CMul_r (by omega), hF⟩) (fun _ h => h) (fun F hF => at_lu hr ⟨CMul_r (by omega), hF⟩) ?_
    rw [decide_eq_true (by omega), decide_eq_true (by rw [Int.add_mul, Int.one_mul]; omega)]
    exact U.no (b := !(true && true)) rfl (hD _)
end M14
set_option Elab.async false
set_option linter.all false
set_option maxRecDepth 100000
set_option maxHeartbeats 1000000
local macro_rules | `(tactic| walk_at "sz") => `(tactic| first | omega | (simp only [List.length_map, List.length_cons, List.length_nil, List.length_append, List.length_range, List.length_zipIdx] <;> omega))
local macro_rules | `(tactic| walk_at "pl") => `(tactic| first | exact U.pl_int _ | exact U.pl_str _ | exact U.pl_none | exact U.pl_bool _)
local macro_rules | `(tactic| walk_at "side") => `(tactic| first | exact True.intro | with_reducible exact rfl | exact U.le_size (by walk_at "sz") | exact U.lt_size (by walk_at "sz") | exact And.intro (by walk_at "pl") (by walk_at "pl") | exact And.intro (by walk_at "sz") (by walk_at "sz") | exact Or.inl (And.intro (by walk_at "sz") (by walk_at "sz")) | exact Or.inr (And.intro (by walk_at "sz") (by walk_at "sz")) | exact And.intro (by decide +kernel) (U.le_size (by walk_at "sz")) | walk_at "sz")
local macro_rules | `(tactic| walk_at "wp") => `(tactic| ((conv => whnf); (try dsimp only); repeat (refine And.intro (by walk_at "side") ?_; (conv => whnf); (try dsimp only))))
namespace M14
open PySem PySem.Spec PyProof.Rows L2 PL SG S14 KSet
open PySem.W (Datum DatumOrd Tup)
theorem l_told' (a : Ad) (lu : Int × Int) (hu : OkL lu) (ss : List Sh) (ok : OkS ss) (hl : ss.length ≤ 5) (s3 s4 s6 s7 : Sl) (m : Int) (m0 : 0 ≤ m) (m1 : m < 60) (r : Nat) (hr : r < 2) (rest : SW) (D : PEn)
    (hD : ∀ d, rest (EB (.sh (ssD ss)) (.sh (luD lu)) s3 s4 (.sh (.list ((bornL lu ss).map fun c => Datum.toD c))) s6 s7 (.sh (.int m)) (.sh (.int (r : Nat))) (.sh (.int (sumT lu ss true))) (.sh d) .un .un .un .un .un) D) :
    (sSeq (v__law_light_6 a) (sSeq (v__law_light_7 a) (sSeq (v__law_light_8 a) rest))) (EB (.sh (ssD ss)) (.sh (luD lu)) s3 s4 (.sh (.list ((bornL lu ss).map fun c => Datum.toD c))) s6 s7 (.sh (.int m)) (.sh (.int (r : Nat))) (.sh (.int (sumT lu ss true))) .un .un .un .un .un .un) D := by
  have := l_told a lu hu ss ok hl s3 s4 s6 s7 m m0 m1 r hr { D with nx := fun ρ' => rest ρ' D } hD
  dsimp only [sSeq] at this ⊢
  exact this
theorem p_light (a : Ad) (Q : PyData → Prop) (E : Exn → Prop) (h : Q (.bool true)) : c__law_light a [.dice] Q E := by
  show u__law_light a (EB .un .un .un .un .un .un .un .un .un .un .un .un .un .un .un .un) _
  rw [u__law_light_parts]
  refine ⟨Nat.zero_le _, rfl, rfl, p_roll a 4 _ _ (by omega) (by omega) fun x x0 x1 => ⟨rfl, rfl, p_roll a 4 _ _ (by omega) (by omega) fun y y0 y1 => ?_⟩⟩
  refine ⟨U.le_size (show 2 ≤ 100000 by omega), rfl, ?_⟩
  have hu : OkL (x, y) := ⟨⟨by show (0 : Int) ≤ x; omega, by show x ≤ 3; omega⟩, by show (0 : Int) ≤ y; omega, by show y ≤ 3; omega⟩
  refine ⟨rfl, rfl, p_roll a 6 _ _ (by omega) (by omega) fun k k0 k1 => ⟨⟨by omega, by omega⟩, ?_⟩⟩
  obtain ⟨k, rfl⟩ := nat_of k0
  rw [show (k : Int).toNat = k by omega]
  refine l_shows a (x, y) _ k (by omega) fun ss s3 s4 ok hl o4 => ?_
  refine ⟨Nat.zero_le _, ?_⟩
  refine l_table a (x, y) hu ss ok hl _ s3 s4 o4 fun s1 s4 s6 s7 h1 => ?_
  generalize hlu : (x, y) = lu at hu
  have main : (sSeq (v__law_light_4 a) (sSeq (v__law_light_5 a) (sFrz 1 (sSeq (v__law_light_6 a) (sSeq (v__law_light_7 a) (sSeq (v__law_light_8 a) (sSeq (v__law_light_9 a) (sSeq (v__law_light_10 a) (sSeq (v__law_light_11 a) (sSeq (v__law_light_12 a) (sSeq (v__law_light_13 a) (sSeq (v__law_light_14 a) (sSeq (v__law_light_15 a) (sSeq (v__law_light_16 a) (v__law_light_17 a)))))))))))))))
      (EB (.sh (ssD ss)) (.sh (luD lu)) s3 s4 (.sh (.list ((bornL lu ss).map fun c => Datum.toD c))) s6 s7 .un .un .un .un .un .un .un .un .un) { nx := fun _ => Q .none, rt := Q, ex := E } := by
    refine ⟨rfl, p_borne a lu ss ok hu (by omega) _ _ ?_⟩
    refine ⟨⟨U.PlD (bornL lu ss), U.PlD (bornL lu ss)⟩, ?_⟩
    refine U.brNe (bornL lu ss) (bornL lu ss) (fun e => absurd rfl e) (fun _ => ?_)
    refine ⟨rfl, rfl, p_roll a 60 _ _ (by omega) (by omega) fun m m0 m1 => ⟨rfl, rfl, p_roll a 2 _ _ (by omega) (by omega) fun r r0 r1 => ?_⟩⟩
    obtain ⟨r, rfl⟩ := nat_of r0
    refine vget_of (ρ := EB (.sh (ssD ss)) (.sh (luD lu)) s3 s4 (.sh (.list ((bornL lu ss).map fun c => Datum.toD c))) s6 s7 .un .un .un .un .un .un .un .un .un) (wo := wDictP (wOnlyL (wRd 5))) (wk := wC (.str "x")) (wx := wC (.int 0)) (kvs := tabD (thL ss) (sumT lu ss)) (k := .str (tS true)) (x := .int 0) (fun F hF => dictL_of (ds := (bornL lu ss).map fun c => Datum.toD c) (fun F2 hF2 => hF2) (pairs_born (sumT lu ss) (thL ss)) hF) (fun _ h => h) (fun _ h => h) (get_born (sumT lu ss) (hasT ss) (fun t h => sum_not h) true) ?_
    refine ⟨rfl, ?_⟩
    generalize hrest : (sSeq (v__law_light_9 a) (sSeq (v__law_light_10 a) (sSeq (v__law_light_11 a) (sSeq (v__law_light_12 a) (sSeq (v__law_light_13 a) (sSeq (v__law_light_14 a) (sSeq (v__law_light_15 a) (sSeq (v__law_light_16 a) (v__law_light_17 a))))))))) = rest
    refine l_told' a lu hu ss ok hl s3 s4 s6 s7 m m0 m1 r (by omega) rest _ fun d => ?_
    subst hrest
    exact l_turns a _ _ _ _ _ _ _ _ _ _ _ Q E h
  subst hlu
  rcases h1 with rfl | rfl
  · exact main
  · exact main
end M14
set_option Elab.async false
set_option linter.all false
set_option maxRecDepth 100000
set_option maxHeartbeats 1000000
local macro_rules | `(tactic| walk_at "sz") => `(tactic| first | omega | (simp only [List.length_map, List.length_cons, List.length_nil, List.length_append, List.length_range, List.length_zipIdx] <;> omega))
local macro_rules | `(tactic| walk_at "pl") => `(tactic| first | exact U.pl_int _ | exact U.pl_str _ | exact U.pl_none | exact U.pl_bool _)
local macro_rules | `(tactic| walk_at "side") => `(tactic| first | exact True.intro | with_reducible exact rfl | exact U.le_size (by walk_at "sz") | exact U.lt_size (by walk_at "sz") | exact And.intro (by walk_at "pl") (by walk_at "pl") | exact And.intro (by walk_at "sz") (by walk_at "sz") | exact Or.inl (And.intro (by walk_at "sz") (by walk_at "sz")) | exact Or.inr (And.intro (by walk_at "sz") (by walk_at "sz")) | exact And.intro (by decide +kernel) (U.le_size (by walk_at "sz")) | walk_at "sz")
local macro_rules | `(tactic| walk_at "wp") => `(tactic| ((conv => whnf); (try dsimp only); repeat (refine And.intro (by walk_at "side") ?_; (conv => whnf); (try dsimp only))))
namespace M14
open PySem PySem.Spec PyProof.Rows L2 PL SG S14 KSet
open PySem.W (Datum DatumOrd Tup)
abbrev EL (s2 s3 s4 s5 s6 s7 s8 s9 s10 s11 s12 s13 s14 s15 s16 : Sl) : En := [.un, .dice, s2, s3, s4, s5, s6, s7, s8, s9, s10, s11, s12, s13, s14, s15, s16, .un, .un, .un, .un]
theorem l_loans (a : Ad) (D : PEn) (n : Nat) (hn : n ≤ 6)
    (hD : ∀ (ls : List Ln) (ps : List Int) (s4 s5 : Sl), Ok ls → (∀ p ∈ ps, 1 ≤ p) → ls.length ≤ 6 → ps.length = ls.length → s4.owned = false → s5.owned = false → D.nx (EL (.ol (ls.map lnD)) (.ol (ps.map .int)) s4 s5 .un .un .un .un .un .un .un .un .un .un .un)) :
    goFor g_law_0 (b_law_0 a) D (rangeD 0 n) (EL (.ol []) (.ol []) .un .un .un .un .un .un .un .un .un .un .un .un .un) := by
  refine U.for_rng n (fun i ρ => ∃ (ls : List Ln) (ps : List Int) (s4 s5 : Sl), Ok ls ∧ (∀ p ∈ ps, 1 ≤ p) ∧ ls.length = i ∧ ps.length = i ∧ s4.owned = false ∧ s5.owned = false ∧ ρ = EL (.ol (ls.map lnD)) (.ol (ps.map .int)) s4 s5 .un .un .un .un .un .un .un .un .un .un .un) (fun i ρ N hN hi hI => ?_) (fun ρ hI => ?_) _ ⟨[], [], Sl.un, Sl.un, (fun s hs => by cases hs), (fun s hs => by cases hs), rfl, rfl, rfl, rfl, rfl⟩
  · obtain ⟨ls, ps, s4, s5, ok, hp, hl, hl2, o4, o5, rfl⟩ := hI
    refine ⟨rfl, rfl, p_roll a 9 _ _ (by omega) (by omega) fun f f0 f1 => ?_⟩
    refine ⟨rfl, rfl, p_roll a 2 _ _ (by omega) (by omega) fun x x0 x1 => ?_⟩
    refine at_xy x0 x1 ?_
    refine ⟨rfl, rfl, p_roll a 4 _ _ (by omega) (by omega) fun y y0 y1 => ?_⟩
    refine ⟨U.le_size (show 3 ≤ 100000 by omega), U.lt_size (by rw [List.length_map]; omega), ?_⟩
    refine ⟨rfl, rfl, p_roll a 9 _ _ (by omega) (by omega) fun z z0 z1 => ?_⟩
    refine ⟨U.lt_size (by rw [List.length_map]; omega), ?_⟩
    have := hN (EL (.ol ((ls ++ [(⟨decide (x = 0), f, f + 1 + y⟩ : Ln)]).map lnD)) (.ol ((ps ++ [1 + z]).map .int)) (.sh (.int (i : Nat))) (.sh (.int f)) .un .un .un .un .un .un .un .un .un .un .un) ⟨_, _, _, _, (fun s hs => by
      rcases List.mem_append.mp hs with hs | hs
      · exact ok s hs
      · rw [List.mem_singleton] at hs
        subst hs
        exact ⟨f0, by show f < f + 1 + y; omega, by show f + 1 + y ≤ 13; omega⟩), (fun p hs => by
      rcases List.mem_append.mp hs with hs | hs
      · exact hp p hs
      · rw [List.mem_singleton] at hs
        omega), by rw [List.length_append, hl]; rfl, by rw [List.length_append, hl2]; rfl, rfl, rfl, rfl⟩
    rw [List.map_append, List.map_append] at this
    exact this
  · obtain ⟨ls, ps, s4, s5, ok, hp, hl, hl2, o4, o5, rfl⟩ := hI
    exact hD ls ps s4 s5 ok hp (by omega) (by omega) o4 o5
def dysD (l : Ln) : PyData := .list ((dayL l).map dD)
theorem dayL_len {l : Ln} (h : 0 ≤ l.f ∧ l.f < l.u ∧ l.u ≤ 13) : (dayL l).length ≤ 13 := by
  unfold dayL rangeI
  rw [List.length_map, List.length_map, List.length_range]
  omega
theorem l_days (a : Ad) (ls : List Ln) (ok : Ok ls) (hl : ls.length ≤ 6) (D : PEn) (s3 s4 s5 : Sl)
    (hD : ∀ s5 s7 s8, s7.owned = false → D.nx (EL (.sh (lsD ls)) s3 s4 s5 (.ol (ls.map dysD)) s7 s8 .un .un .un .un .un .un .un .un)) :
    goFor g_law_1 (b_law_1 a) D (ls.map lnD) (EL (.sh (lsD ls)) s3 s4 s5 (.ol []) .un .un .un .un .un .un .un .un .un .un) := by
  refine U.for_list (enc := lnD) ls (fun i ρ => ∃ s5 s7 s8, s7.owned = false ∧ ρ = EL (.sh (lsD ls)) s3 s4 s5 (.ol ((ls.take i).map dysD)) s7 s8 .un .un .un .un .un .un .un .un) (fun i l ρ N hN hx hi hI => ?_) (fun ρ hI => ?_) _ ⟨_, _, _, rfl, rfl⟩
  · obtain ⟨s5, s7, s8, o7, rfl⟩ := hI
    obtain ⟨h1, h2, h3⟩ := ok l (List.mem_of_getElem? hx)
    rw [show ls.take (i + 1) = ls.take i ++ [l] by rw [List.take_add_one, hx]; rfl, List.map_append] at hN
    refine ⟨rfl, rfl, U.noown rfl, ⟨by omega, by omega, by omega, by omega⟩, ?_⟩
    rw [rangeD_I]
    have hr : (rangeI l.f l.u).length ≤ 13 := by
      unfold rangeI
      rw [List.length_map, List.length_range]
      omega
    refine U.lc_map (enc := PyData.int) (enco := dD) (rangeI l.f l.u) (fun d => (tS l.t, d)) (fun d hd Y hY => ⟨U.le_size (show 2 ≤ 100000 by omega), hY⟩) (by omega) ?_
    refine ⟨U.lt_size (by rw [List.length_map, List.length_take]; omega), hN _ ⟨_, _, _, rfl, rfl⟩⟩
  · obtain ⟨s5, s7, s8, o7, rfl⟩ := hI
    rw [List.take_length]
    exact hD _ _ _ o7
theorem at_dys {ls : List Ln} {k : Nat} (h : k < ls.length) {Y : PyData → Prop} (hY : Y (dysD (atL ls k))) : fIx (.list (ls.map dysD)) (.int (k : Nat)) Y := by
  show match atI (ls.map dysD) (k : Nat) with | some d => Y d | none => False
  rw [U.at_nat, List.getElem?_map, atL_get h]
  exact hY
theorem fm_clK (ls : List Ln) (k : Nat) : ((List.range k).filterMap fun j => if clB (atL ls k) (atL ls j) = true then some (j, k) else none) = clK ls k := by
  unfold clK
  generalize List.range k = l
  induction l with
  | nil => rfl
  | cons x r ih =>
    by_cases c : clB (atL ls k) (atL ls x) = true
    · rw [List.filterMap_cons_some (by rw [if_pos c]), List.filter_cons_of_pos (by exact c), ih]; rfl
    · rw [List.filterMap_cons_none (by rw [if_neg c]), List.filter_cons_of_neg (by exact c), ih]
theorem l_bad (a : Ad) (ls : List Ln) (ok : Ok ls) (hl : ls.length ≤ 6) (D : PEn) (s2 s3 s4 s5 s7 s8 : Sl) (o4 : s4.owned = false)
    (hD : ∀ s4, s4.owned = false → D.nx (EL s2 s3 s4 s5 (.ol (ls.map dysD)) s7 s8 (.sh (.list ((clP ls ls.length).map pN))) .un .un .un .un .un .un .un)) :
    goFor g_law_2 (b_law_2 a) D (rangeD 0 ls.length) (EL s2 s3 s4 s5 (.ol (ls.map dysD)) s7 s8 (.sh (.list [])) .un .un .un .un .un .un .un) := by
  refine U.for_rng ls.length (fun i ρ => ∃ s4, s4.owned = false ∧ ρ = EL s2 s3 s4 s5 (.ol (ls.map dysD)) s7 s8 (.sh (.list ((clP ls i).map pN))) .un .un .un .un .un .un .un) (fun i ρ N hN hi hI => ?_) (fun ρ hI => ?_) _ ⟨_, o4, rfl⟩
  · obtain ⟨s4, o4, rfl⟩ := hI
    refine ⟨U.noown rfl, ⟨by omega, by omega⟩, ?_⟩
    rw [show (i : Int).toNat = i by omega, U.range0]
    refine U.lc_all (enc := fun j : Nat => PyData.int (j : Nat)) (enco := pN) (List.range i) (fun j => if clB (atL ls i) (atL ls j) = true then some (j, i) else none) (fun j hj Y M hY hM => ?_) (by rw [List.length_range]; omega) ?_
    · rw [List.mem_range] at hj
      have hj' : j < ls.length := by omega
      have okj := ok _ (List.mem_of_getElem? (atL_get hj'))
      have oki := ok _ (List.mem_of_getElem? (atL_get hi))
      refine ⟨U.noown rfl, ?_⟩
      refine at_dys hj' ?_
      refine U.lc_filter (enc := dD) (dayL (atL ls j)) (fun p => decide (p ∈ dayL (atL ls i))) (fun p hp Z M hZ hM => ?_) (by have := dayL_len okj; omega) ?_
      · refine at_dys hi ?_
        refine ⟨⟨U.PlD p, U.PlD (dayL (atL ls i))⟩, ?_⟩
        show if (((dayL (atL ls i)).map dD).any fun z => PyData.eqv z (dD p)) = true then _ else _
        rw [any_mem]
        exact U.br hZ hM
      · refine ⟨Nat.zero_le _, ⟨U.PlD ((dayL (atL ls j)).filter fun p => decide (p ∈ dayL (atL ls i))), U.PlD ([] : List (Str × Int))⟩, ?_⟩
        refine U.brNe ((dayL (atL ls j)).filter fun p => decide (p ∈ dayL (atL ls i))) ([] : List (Str × Int)) (fun e => ?_) (fun e => ?_)
        · exact ⟨U.le_size (show 2 ≤ 100000 by omega), hY (j, i) (if_pos ((common okj.2.1 oki.2.1).mp e))⟩
        · exact hM (if_neg fun c => (common okj.2.1 oki.2.1).mpr c e)
    · rw [fm_clK]
      have h1 := clP_len ls i
      have h2 := clK_len ls i
      have h3 : i * i ≤ 6 * 6 := Nat.mul_le_mul (by omega) (by omega)
      have := hN (EL s2 s3 (.sh (.int (i : Nat))) s5 (.ol (ls.map dysD)) s7 s8 (.sh (.list ((clP ls (i + 1)).map pN))) .un .un .un .un .un .un .un) ⟨_, rfl, rfl⟩
      rw [clP_succ, List.map_append] at this
      exact ⟨U.le_size (by rw [List.length_map, List.length_map]; omega), this⟩
  · obtain ⟨s4, o4, rfl⟩ := hI
    exact hD _ o4
end M14
set_option Elab.async false
set_option linter.all false
set_option maxRecDepth 100000
set_option maxHeartbeats 1000000
local macro_rules | `(tactic| walk_at "sz") => `(tactic| first | omega | (simp only [List.length_map, List.length_cons, List.length_nil, List.length_append, List.length_range, List.length_zipIdx] <;> omega))
local macro_rules | `(tactic| walk_at "pl") => `(tactic| first | exact U.pl_int _ | exact U.pl_str _ | exact U.pl_none | exact U.pl_bool _)
local macro_rules | `(tactic| walk_at "side") => `(tactic| first | exact True.intro | with_reducible exact rfl | exact U.le_size (by walk_at "sz") | exact U.lt_size (by walk_at "sz") | exact And.intro (by walk_at "pl") (by walk_at "pl") | exact And.intro (by walk_at "sz") (by walk_at "sz") | exact Or.inl (And.intro (by walk_at "sz") (by walk_at "sz")) | exact Or.inr (And.intro (by walk_at "sz") (by walk_at "sz")) | exact And.intro (by decide +kernel) (U.le_size (by walk_at "sz")) | walk_at "sz")
local macro_rules | `(tactic| walk_at "wp") => `(tactic| ((conv => whnf); (try dsimp only); repeat (refine And.intro (by walk_at "side") ?_; (conv => whnf); (try dsimp only))))
namespace M14
open PySem PySem.Spec PyProof.Rows L2 PL SG S14 KSet
open PySem.W (Datum DatumOrd Tup)
theorem fm_on (d : Int) (t : Bool) : ∀ ls : List Ln, (ls.filterMap fun l => if (tS t, d) ∈ dayL l then some (1 : Int) else none) = [] ↔ onB ls d t = false
  | [] => ⟨fun _ => rfl, fun _ => rfl⟩
  | l :: r => by
    have ih := fm_on d t r
    unfold onB at ih ⊢
    rw [List.any_cons, Bool.or_eq_false_iff]
    by_cases c : (tS t, d) ∈ dayL l
    · rw [List.filterMap_cons_some (by rw [if_pos c])]
      rw [mem_dayL] at c
      refine ⟨fun z => (by cases z), fun z => ?_⟩
      have := z.1
      rw [decide_eq_true c.1.symm, decide_eq_true c.2.1, decide_eq_true c.2.2] at this
      cases this
    · rw [List.filterMap_cons_none (by rw [if_neg c]), ih]
      rw [mem_dayL] at c
      refine ⟨fun z => ⟨?_, z⟩, fun z => z.2⟩
      by_cases c1 : l.t = t
      · by_cases c2 : l.f ≤ d
        · rw [decide_eq_false (fun c3 : d < l.u => c ⟨c1.symm, c2, c3⟩)]; simp
        · rw [decide_eq_false c2]; simp
      · rw [decide_eq_false c1]; rfl
def gnD (ls : List Ln) (d : Int) : List PyData := (gone ls d).map fun t => .str (tS t)
theorem gnD_eq (ls : List Ln) (d : Int) : PyData.list (gnD ls d) = Datum.toD ((gone ls d).map tS) := by
  show PyData.list _ = PyData.list (((gone ls d).map tS).map fun x => Datum.toD x)
  rw [List.map_map]
  rfl
theorem gnD_pl (ls : List Ln) (d : Int) : Pl (.list (gnD ls d)) := by
  rw [gnD_eq]
  exact U.PlD ((gone ls d).map tS)
theorem gnD_refl (ls : List Ln) (d : Int) : PyData.eqv (.list (gnD ls d)) (.list (gnD ls d)) = true := by
  rw [gnD_eq, Datum.eqv]
  exact decide_eq_true rfl
theorem gone_len (ls : List Ln) (d : Int) : (gone ls d).length ≤ 2 := by
  unfold gone
  exact Nat.le_trans (List.length_filter_le _ _) (by decide)
theorem l_away (a : Ad) (ls : List Ln) (ok : Ok ls) (hl : ls.length ≤ 6) (w : Bool → Int) (hw : ∀ t, 0 ≤ w t) (D : PEn) (s3 s4 s5 s7 s8 s9 : Sl) (o7 : s7.owned = false)
    (hD : ∀ s6 s12 s13 s14, D.nx (EL (.sh (lsD ls)) s3 s4 s5 s6 s7 s8 s9 (.sh (wD w)) (.sh (.tuple [.int (mostN ls w 14).1, .int (mostN ls w 14).2])) s12 s13 s14 .un .un)) :
    goFor g_law_3 (b_law_3 a) D (rangeD 0 14) (EL (.sh (lsD ls)) s3 s4 s5 (.ol (ls.map dysD)) s7 s8 s9 (.sh (wD w)) (.sh (.tuple [.int 0, .int 0])) .un .un .un .un .un) := by
  refine U.for_rng 14 (fun i ρ => ∃ s6 s12 s13 s14, (s6 = .ol (ls.map dysD) ∨ s6 = .sh (.list (ls.map dysD))) ∧ ρ = EL (.sh (lsD ls)) s3 s4 s5 s6 s7 s8 s9 (.sh (wD w)) (.sh (.tuple [.int (mostN ls w i).1, .int (mostN ls w i).2])) s12 s13 s14 .un .un) (fun i ρ N hN hi hI => ?_) (fun ρ hI => ?_) _ ⟨_, _, _, _, .inl rfl, rfl⟩
  · obtain ⟨s6, s12, s13, s14, h6, rfl⟩ := hI
    have main : (sSeq (sOwn 13 (wLc (wItS (wC (.str "xy"))) (gNameD 7) (wT (w2 (fEq true) (wLc (wItL (wVar 6)) (gNameD 20) (wT (w2 (fIn false) (wTup (wCons (wVar 7) (wCons (wVar 12) wNil))) (wRd 20))) (wC (.int 1)) [20]) (wLst wNil))) (wVar 7) [7]))
 (sFrz 2 (sSeq (sIf (wT (w2 (fEq true) (w1 fList (wCall 2 (c_away a) (wpSh (wVar 2) (wpSh (wVar 12) wpNil)))) (wRd 13))) (sRet (wC (.bool false))) sNil)
 (sFrz 13 (sSeq (sSet 14 (w1 fSum (wLc (wItL (wVar 13)) (gNameD 7) wYes (wDIx 10 (wVar 7)) [7])))
 (sSet 11 (wIf (wT (w2 (fC fun i j => decide (j < i)) (wRd 14) (w2 fIx (wRd 11) (wC (.int 0))))) (wTup (wCons (wVar 14) (wCons (wVar 12) wNil))) (wVar 11))))))))
      (EL (.sh (lsD ls)) s3 s4 s5 (.sh (.list (ls.map dysD))) s7 s8 s9 (.sh (wD w)) (.sh (.tuple [.int (mostN ls w i).1, .int (mostN ls w i).2])) (.sh (.int (i : Nat))) s13 s14 .un .un) { D with nx := N, ct := N, bk := D.nx } := by
      refine ⟨U.noown (by show (!s7.owned && true) = true; rw [o7]; rfl), ?_⟩
      dsimp only [wItS, wC]
      rw [xy_signs]
      refine U.lc_filter (enc := fun t => PyData.str (tS t)) [true, false] (onB ls i) (fun t ht Y M hY hM => ?_) (by decide) ?_
      · refine ⟨U.noown rfl, ?_⟩
        refine U.lc_all (enc := dysD) (enco := PyData.int) ls (fun l => if (tS t, ((i : Nat) : Int)) ∈ dayL l then some 1 else none) (fun l hl' Z M' hZ hM' => ?_) (by omega) ?_
        · refine ⟨U.le_size (show 2 ≤ 100000 by omega), ⟨U.PlD ((tS t, ((i : Nat) : Int)) : Str × Int), U.PlD (dayL l)⟩, ?_⟩
          show if (((dayL l).map dD).any fun z => PyData.eqv z (dD (tS t, ((i : Nat) : Int)))) = true then _ else _
          rw [any_mem]
          exact U.brD (fun c => hZ 1 (if_pos c)) fun c => hM' (if_neg c)
        · refine ⟨Nat.zero_le _, ⟨U.PlD (ls.filterMap fun l => if (tS t, ((i : Nat) : Int)) ∈ dayL l then some (1 : Int) else none), U.PlD ([] : List Int)⟩, ?_⟩
          refine U.brNe (ls.filterMap fun l => if (tS t, ((i : Nat) : Int)) ∈ dayL l then some (1 : Int) else none) ([] : List Int) (fun e => ?_) (fun e => ?_)
          · refine hY ?_
            cases c : onB ls i t with
            | true => rfl
            | false => exact absurd ((fm_on _ _ _).mpr c) e
          · exact hM ((fm_on _ _ _).mp e)
      · show (sFrz 2 _) (EL (.sh (lsD ls)) s3 s4 s5 (.sh (.list (ls.map dysD))) s7 s8 s9 (.sh (wD w)) (.sh (.tuple [.int (mostN ls w i).1, .int (mostN ls w i).2])) (.sh (.int (i : Nat))) (.ol (gnD ls i)) s14 .un .un) _
        refine ⟨rfl, p_away a ls ok (by omega) i _ _ ?_⟩
        refine ⟨⟨gnD_pl ls i, gnD_pl ls i⟩, ?_⟩
        refine U.no (b := !PyData.eqv (.list (gnD ls i)) (.list (gnD ls i))) (by rw [gnD_refl]; rfl) ?_
        refine ⟨U.noown (by show (!s7.owned && true) = true; rw [o7]; rfl), ?_⟩
        refine U.lc_map (enc := fun t : Bool => PyData.str (tS t)) (enco := PyData.int) (gone ls i) w (fun t ht Y hY => ?_) (by have := gone_len ls i; omega) ?_
        · show dIx (atSl (.sh (wD w)) (.str (tS t))) Y
          rw [w_at]
          exact hY
        · unfold fSum
          dsimp only
          rw [allInts_map]
          dsimp only
          rw [show ((gone ls i).map w).sum = val ls w i from rfl]
          rw [mostN_succ] at hN
          unfold stepV at hN
          refine U.brD (p := (mostN ls w i).1 < val ls w i) (fun c => ?_) (fun c => ?_)
          · rw [if_pos c] at hN
            exact ⟨U.le_size (show 2 ≤ 100000 by omega), hN _ ⟨_, _, _, _, .inr rfl, rfl⟩⟩
          · rw [if_neg c] at hN
            exact hN _ ⟨_, _, _, _, .inr rfl, rfl⟩
    rcases h6 with rfl | rfl
    · exact main
    · exact main
  · obtain ⟨s6, s12, s13, s14, h6, rfl⟩ := hI
    exact hD _ _ _ _
theorem pP_eq (l : List (Nat × Nat)) : PyData.list (l.map pN) = Datum.toD (l.map pI) := by
  show PyData.list _ = PyData.list ((l.map pI).map fun x => Datum.toD x)
  rw [List.map_map]
  rfl
theorem pP_pl (l : List (Nat × Nat)) : Pl (.list (l.map pN)) := by
  rw [pP_eq]
  exact U.PlD (l.map pI)
theorem pP_refl (l : List (Nat × Nat)) : PyData.eqv (.list (l.map pN)) (.list (l.map pN)) = true := by
  rw [pP_eq, Datum.eqv]
  exact decide_eq_true rfl
theorem l_first (a : Ad) (ls : List Ln) (ok : Ok ls) (hl : ls.length ≤ 6) (rest : SW) (D : PEn) (s3 s4 s5 s7 s8 : Sl) (o7 : s7.owned = false)
    (hD : ∀ s6 s10 s11 s12 s13 s14, rest (EL (.sh (lsD ls)) s3 s4 s5 s6 s7 s8 (.sh (.list ((clP ls ls.length).map pN))) s10 s11 s12 s13 s14 .un .un) D) :
    (sSeq (v_law_6 a) (sSeq (v_law_7 a) (sSeq (v_law_8 a) (sSeq (v_law_9 a) (sFrz 2 (sSeq (v_law_10 a) rest)))))) (EL (.sh (lsD ls)) s3 s4 s5 (.ol (ls.map dysD)) s7 s8 (.sh (.list ((clP ls ls.length).map pN))) .un .un .un .un .un .un .un) D := by
  refine ⟨rfl, p_clashes a ls ok (by omega) _ _ ?_⟩
  refine ⟨side_ii pI _, ?_⟩
  show (fEq true) (.list _) (.list (((clP ls ls.length).map pN).mergeSort (PySem.W.dataLe false id))) _
  rw [srtP_eq]
  refine ⟨⟨pP_pl _, pP_pl _⟩, ?_⟩
  refine U.no (b := !PyData.eqv (.list ((srtP (clP ls ls.length)).map pN)) (.list ((srtP (clP ls ls.length)).map pN))) (by rw [pP_refl]; rfl) ?_
  refine ⟨U.noown rfl, ?_⟩
  have hcl := clP_len ls ls.length
  have hsq : ls.length * ls.length ≤ 6 * 6 := Nat.mul_le_mul hl hl
  refine U.lc_filter (enc := pN) (clP ls ls.length) (fun _ => false) (fun p hp Y M hY hM => ?_) (by omega) ?_
  · obtain ⟨h1, h2, h3⟩ := mem_clP.mp hp
    refine at_lnD (k := p.1) (by omega) ?_
    refine at_lnD (k := p.2) h2 ?_
    refine ⟨rfl, p_clash a _ _ _ _ ?_⟩
    rw [clB_symm, h3]
    exact U.no (b := !true) rfl (hM rfl)
  · rw [show (clP ls ls.length).filter (fun _ => false) = [] from List.filter_eq_nil_iff.mpr fun _ _ e => by cases e]
    refine ⟨Nat.zero_le _, ⟨U.PlD ([] : List Int), U.PlD ([] : List Int)⟩, ?_⟩
    refine U.no (b := !PyData.eqv (.list []) (.list [])) rfl ?_
    refine ⟨rfl, rfl, p_roll a 5 _ _ (by omega) (by omega) fun x x0 x1 => ⟨rfl, rfl, p_roll a 5 _ _ (by omega) (by omega) fun y y0 y1 => ?_⟩⟩
    refine ⟨kT false, rfl, kT true, rfl, show 2 ≤ 15 by omega, ?_⟩
    refine ⟨U.le_size (by decide), rfl, ?_⟩
    refine ⟨⟨by decide, by decide⟩, ?_⟩
    refine l_away a ls ok hl (fun t => if t then x else y) (fun t => by cases t <;> simp <;> omega) _ s3 s4 s5 s7 s8 _ o7 fun s6 s12 s13 s14 => ?_
    refine ⟨rfl, p_most a ls _ ok (fun t => by cases t <;> simp <;> omega) (by omega) _ _ ?_⟩
    refine ⟨⟨U.PlD (mostN ls (fun t => if t then x else y) 14), U.PlD (mostN ls (fun t => if t then x else y) 14)⟩, ?_⟩
    refine U.brNe (mostN ls (fun t => if t then x else y) 14) (mostN ls (fun t => if t then x else y) 14) (fun e => absurd rfl e) (fun _ => ?_)
    exact hD _ _ _ _ _ _
end M14
set_option Elab.async false
set_option linter.all false
set_option maxRecDepth 100000
set_option maxHeartbeats 1000000
local macro_rules | `(tactic| walk_at "sz") => `(tactic| first | omega | (simp only [List.length_map, List.length_cons, List.length_nil, List.length_append, List.length_range, List.length_zipIdx] <;> omega))
local macro_rules | `(tactic| walk_at "pl") => `(tactic| first | exact U.pl_int _ | exact U.pl_str _ | exact U.pl_none | exact U.pl_bool _)
local macro_rules | `(tactic| walk_at "side") => `(tactic| first | exact True.intro | with_reducible exact rfl | exact U.le_size (by walk_at "sz") | exact U.lt_size (by walk_at "sz") | exact And.intro (by walk_at "pl") (by walk_at "pl") | exact And.intro (by walk_at "sz") (by walk_at "sz") | exact Or.inl (And.intro (by walk_at "sz") (by walk_at "sz")) | exact Or.inr (And.intro (by walk_at "sz") (by walk_at "sz")) | exact And.intro (by decide +kernel) (U.le_size (by walk_at "sz")) | walk_at "sz")
local macro_rules | `(tactic| walk_at "wp") => `(tactic| ((conv => whnf); (try dsimp only); repeat (refine And.intro (by walk_at "side") ?_; (conv => whnf); (try dsimp only))))
namespace M14
open PySem PySem.Spec PyProof.Rows L2 PL SG S14 KSet
open PySem.W (Datum DatumOrd Tup)
theorem any_nat (r : List Nat) (j : Nat) : ((r.map fun k : Nat => PyData.int (k : Int)).any fun z => PyData.eqv z (.int (j : Nat))) = decide (j ∈ r) := by
  have h := any_int (l := r.map fun k : Nat => (k : Int)) (j : Int)
  rw [List.map_map] at h
  have e : decide ((j : Int) ∈ r.map fun k : Nat => (k : Int)) = decide (j ∈ r) := by
    congr 1
    rw [List.mem_map]
    exact propext ⟨fun ⟨x, hx, e⟩ => by rw [show j = x by omega]; exact hx, fun h => ⟨j, h, rfl⟩⟩
  rw [e] at h
  exact h
theorem rD_pl (r : List Nat) : Pl (rD r) := by
  rw [rD_T]
  exact U.PlD (rowT r)
theorem pP_nil (l : List (Nat × Nat)) : PyData.eqv (.list (l.map pN)) (.list []) = l.isEmpty := by
  have h := Datum.eqv (l.map pI) ([] : List (Int × Int))
  rw [← pP_eq] at h
  have e : PyData.eqv (.list (l.map pN)) (.list []) = decide (l.map pI = []) := h
  rw [e]
  cases l <;> rfl
theorem fm_ok (ls : List Ln) (ps : List Int) (l : List (List Nat)) : (l.filterMap fun r => if okR ls r = true then some (keyR ps r) else none) = (l.filter (okR ls)).map (keyR ps) := by
  induction l with
  | nil => rfl
  | cons x r ih =>
    by_cases c : okR ls x = true
    · rw [List.filterMap_cons_some (by rw [if_pos c]), List.filter_cons_of_pos c, ih]; rfl
    · rw [List.filterMap_cons_none (by rw [if_neg c]), List.filter_cons_of_neg c, ih]
theorem told2 (a : Ad) (ne : a.x_NoWay ≠ a.x_BadPlan) : toldRet (hsT a) a.x_BadPlan = some ("plan" : Str) := by
  simp [toldRet, hsT, ne, ne.symm]
theorem l_sets (a : Ad) (N0 : Nat) (hn : N0 ≤ 6) (D : PEn) (s2 s3 s4 s5 s6 s7 s8 s9 s10 s11 s12 s13 s14 : Sl) (o4 : s4.owned = false)
    (hD : ∀ s4, s4.owned = false → D.nx (EL s2 s3 s4 s5 s6 s7 s8 s9 s10 s11 s12 s13 s14 (.sh (.list ((setsN N0).map rD))) .un)) :
    goFor g_law_4 (b_law_4 a) D (rangeD 0 N0) (EL s2 s3 s4 s5 s6 s7 s8 s9 s10 s11 s12 s13 s14 (.sh (.list [.tuple []])) .un) := by
  have hpow : ∀ i, i ≤ 6 → (setsN i).length ≤ 64 := fun i h => by
    rw [setsN_len]
    exact Nat.le_trans (Nat.pow_le_pow_right (by omega) h) (by decide)
  refine U.for_rng N0 (fun i ρ => ∃ s4, s4.owned = false ∧ ρ = EL s2 s3 s4 s5 s6 s7 s8 s9 s10 s11 s12 s13 s14 (.sh (.list ((setsN i).map rD))) .un) (fun i ρ N hN hi hI => ?_) (fun ρ hI => ?_) _ ⟨_, o4, rfl⟩
  · obtain ⟨s4, o4, rfl⟩ := hI
    have h64 := hpow i (by omega)
    refine ⟨U.noown rfl, ?_⟩
    refine U.lc_map (enc := rD) (enco := rD) (setsN i) (· ++ [i]) (fun r hr Y hY => ?_) (by omega) ?_
    · have := setsN_row hr
      refine ⟨U.le_size (show 1 ≤ 100000 by omega), U.le_size (by simp only [List.length_map, List.length_cons, List.length_nil]; omega), ?_⟩
      unfold rD at hY
      rw [List.map_append] at hY
      exact hY
    · have := hN (EL s2 s3 (.sh (.int (i : Nat))) s5 s6 s7 s8 s9 s10 s11 s12 s13 s14 (.sh (.list ((setsN (i + 1)).map rD))) .un) ⟨_, rfl, rfl⟩
      rw [setsN, List.map_append] at this
      exact ⟨U.le_size (by simp only [List.length_map]; omega), this⟩
  · obtain ⟨s4, o4, rfl⟩ := hI
    exact hD _ o4
theorem l_last (a : Ad) (ne : a.x_NoWay ≠ a.x_BadPlan) (ls : List Ln) (ps : List Int) (ok : Ok ls) (hp : ∀ p ∈ ps, 1 ≤ p) (hl : ls.length ≤ 6) (el : ps.length = ls.length) (D : PEn) (hD : ∀ ρ : En, ρ.length = 21 → D.nx ρ) (s4 s5 s6 s7 s8 s10 s11 s12 s13 s14 : Sl) (o4 : s4.owned = false) :
    (sSeq (v_law_11 a) (sSeq (v_law_12 a) (sSeq (v_law_13 a) (sFrz 3 (sFrz 2 (sSeq (v_law_14 a) (sSeq (v_law_15 a) (v_law_16 a)))))))) (EL (.sh (lsD ls)) (.ol (ps.map .int)) s4 s5 s6 s7 s8 (.sh (.list ((clP ls ls.length).map pN))) s10 s11 s12 s13 s14 .un .un) D := by
  refine ⟨U.le_size (by decide), U.le_size (by decide), ?_⟩
  refine ⟨⟨by rw [List.length_map]; omega, by rw [List.length_map]; omega⟩, ?_⟩
  rw [show (((ls.map lnD).length : Nat) : Int).toNat = ls.length by rw [List.length_map]; omega]
  refine l_sets a ls.length hl _ _ _ s4 _ _ _ _ _ _ _ _ _ _ o4 fun s4 o4 => ?_
  have hcl := clP_len ls ls.length
  have hsq : ls.length * ls.length ≤ 6 * 6 := Nat.mul_le_mul hl hl
  have h64 : (setsN ls.length).length ≤ 64 := by
    rw [setsN_len]
    exact Nat.le_trans (Nat.pow_le_pow_right (by omega) hl) (by decide)
  refine ⟨U.noown rfl, ?_⟩
  refine U.lc_all (enc := rD) (enco := fun x : Int × Tup Int => Datum.toD x) (setsN ls.length) (fun r => if okR ls r = true then some (keyR ps r) else none) (fun r hr Y M hY hM => ?_) (by omega) ?_
  · refine ⟨U.noown rfl, ?_⟩
    refine U.lc_filter (enc := pN) (clP ls ls.length) (fun p => decide (p.1 ∈ r) && decide (p.2 ∈ r)) (fun p hp' Z M' hZ hM' => ?_) (by omega) ?_
    · refine ⟨⟨U.pl_int _, rD_pl r⟩, ?_⟩
      refine U.br (b := (r.map fun k : Nat => PyData.int (k : Int)).any fun z => PyData.eqv z (.int (p.1 : Nat))) (fun c => ?_) (fun c => ?_)
      · rw [any_nat] at c
        rw [c, Bool.true_and] at hZ hM'
        refine ⟨⟨U.pl_int _, rD_pl r⟩, ?_⟩
        refine U.br (b := (r.map fun k : Nat => PyData.int (k : Int)).any fun z => PyData.eqv z (.int (p.2 : Nat))) (fun c => ?_) (fun c => ?_)
        · rw [any_nat] at c
          exact hZ c
        · rw [any_nat] at c
          exact hM' c
      · rw [any_nat] at c
        rw [c, Bool.false_and] at hM'
        exact U.no rfl (hM' rfl)
    · refine ⟨Nat.zero_le _, ⟨pP_pl _, U.PlD ([] : List Int)⟩, ?_⟩
      refine U.br (b := PyData.eqv (.list (((clP ls ls.length).filter fun p => decide (p.1 ∈ r) && decide (p.2 ∈ r)).map pN)) (.list [])) (fun c => ?_) (fun c => ?_)
      · rw [pP_nil] at c
        have c : okR ls r = true := c
        refine ⟨U.noown (by show (!s4.owned && true) = true; rw [o4]; rfl), ?_⟩
        refine U.lc_map (enc := fun k : Nat => PyData.int (k : Nat)) (enco := PyData.int) r (fun k => ps.getD k 0) (fun k hk Z hZ => ?_) (by have := setsN_row hr; omega) ?_
        · have := setsN_lt hr k hk
          exact at_ps (by omega) hZ
        · show match allInts ((r.map fun k => ps.getD k 0).map .int) with | some ns => _ | none => False
          rw [allInts_map]
          refine ⟨trivial, U.le_size (show 2 ≤ 100000 by omega), ?_⟩
          have hY := hY (keyR ps r) (if_pos c)
          have e : Datum.toD (keyR ps r) = PyData.tuple [.int (-(payR ps r)), Datum.toD (rowT r)] := rfl
          rw [e, ← rD_T, ← Int.zero_sub] at hY
          exact hY
      · rw [pP_nil] at c
        exact hM (if_neg (by rw [show okR ls r = false from c]; decide))
  · rw [fm_ok, ← rows_sets ls _ (Nat.le_refl _)]
    show (sFrz 3 (sFrz 2 (sSeq (v_law_14 a) (sSeq (v_law_15 a) (v_law_16 a))))) (EL (.sh (lsD ls)) (.ol (ps.map .int)) s4 s5 s6 s7 s8 (.sh (.list ((clP ls ls.length).map pN))) s10 s11 s12 s13 s14 (.sh (.list ((setsN ls.length).map rD))) (.ol (((rowsN ls ls.length).map (keyR ps)).map fun x => Datum.toD x))) D
    refine ⟨rfl, p_best a ls ps ok hp hl el _ _ ?_⟩
    have emin : ∀ F : PyData → Prop, F (Datum.toD (mn ((rowsN ls ls.length).map (keyR ps)))) → fMin (.list (((rowsN ls ls.length).map (keyR ps)).map fun x => Datum.toD x)) F := fun F hF => by
      cases hr : rowsN ls ls.length with
      | nil => exact absurd hr (rows_ne ls _)
      | cons r t =>
        rw [hr] at hF
        exact U.p_min (keyR ps r) (t.map (keyR ps)) hF
    refine emin _ ?_
    refine ⟨trivial, ?_⟩
    refine emin _ ?_
    generalize mn ((rowsN ls ls.length).map (keyR ps)) = m
    refine ⟨U.le_size (show 2 ≤ 100000 by omega), ?_⟩
    show (fEq true) (Datum.toD ((-(m.1), m.2) : Int × Tup Int)) (.tuple [.int (0 - m.1), Datum.toD m.2]) _
    rw [Int.zero_sub]
    refine ⟨⟨U.PlD ((-(m.1), m.2) : Int × Tup Int), U.PlD ((-(m.1), m.2) : Int × Tup Int)⟩, ?_⟩
    refine U.brNe ((-(m.1), m.2) : Int × Tup Int) ((-(m.1), m.2) : Int × Tup Int) (fun e => absurd rfl e) (fun _ => ?_)
    refine ⟨rfl, rfl, p_light a _ _ ?_⟩
    refine U.no (b := !true) rfl ?_
    refine ⟨U.le_size (by decide), U.le_size (by decide), rfl, p_check0 a _ _ ⟨("plan" : Str), List.mem_cons_of_mem _ List.mem_cons_self, told2 a ne, ?_⟩⟩
    refine ⟨⟨U.pl_str _, U.pl_str _⟩, ?_⟩
    refine U.no (b := !PyData.eqv (.str "plan") (.str "plan")) (by rw [U.eqv_str, decide_eq_true rfl]; rfl) ?_
    exact hD _ rfl
theorem law_body (a : Ad) (ne : a.x_NoWay ≠ a.x_BadPlan) : u_law a ((uns 21).set 1 .dice) (lawEnd 21) := by
  rw [u_law_parts]
  refine ⟨Nat.zero_le _, Nat.zero_le _, rfl, ?_⟩
  refine ⟨rfl, rfl, p_roll a 7 _ _ (by omega) (by omega) fun n n0 n1 => ⟨⟨by omega, by omega⟩, ?_⟩⟩
  obtain ⟨n, rfl⟩ := nat_of n0
  rw [show (n : Int).toNat = n by omega]
  refine l_loans a _ n (by omega) fun ls ps s4 s5 ok hp hl el o4 o5 => ?_
  refine ⟨Nat.zero_le _, ?_⟩
  refine l_days a ls ok hl _ _ s4 s5 fun s5 s7 s8 o7 => ?_
  refine ⟨Nat.zero_le _, ?_⟩
  refine ⟨⟨by rw [List.length_map]; omega, by rw [List.length_map]; omega⟩, ?_⟩
  rw [show (((ls.map lnD).length : Nat) : Int).toNat = ls.length by rw [List.length_map]; omega]
  refine l_bad a ls ok hl _ _ _ s4 _ _ _ o4 fun s4 o4 => ?_
  refine l_first a ls ok hl (sSeq (v_law_11 a) (sSeq (v_law_12 a) (sSeq (v_law_13 a) (sFrz 3 (sFrz 2 (sSeq (v_law_14 a) (sSeq (v_law_15 a) (v_law_16 a)))))))) _ _ s4 s5 s7 s8 o7 fun s6 s10 s11 s12 s13 s14 => ?_
  exact l_last a ne ls ps ok hp hl el (lawEnd 21) (fun ρ h => h) s4 _ _ _ _ _ _ _ _ _ o4
theorem pure_law (a : Ad) (ne : a.x_NoWay ≠ a.x_BadPlan ∧ a.x_NoWay ≠ a.x_BadPaper ∧ a.x_BadPlan ≠ a.x_BadPaper) (ns : List Int) (h : ns.length ≤ 63) : i_law a (.scr ns :: uns (N_law.length - 1)) (fun d => ∃ ds, d = .list ds ∧ Triples ds ∧ u_law a ((uns N_law.length).set 1 .dice) (lawEnd N_law.length)) (fun _ => False) :=
  ⟨ns, rfl, rfl, p_rounds a ns 3 h _ _ fun ds t => ⟨ds, rfl, t, law_body a ne.1⟩⟩
end M14
set_option Elab.async false
set_option linter.all false
set_option maxRecDepth 100000
namespace M14
open PySem PySem.Spec PyProof.Rows L2 PL
theorem fin {l : PySem.W.OpenLaw} {w : World} {K : PySem.W.Frag} {h : Heap} {mg : Str → Option Value} {q : Program} {fa : Addr} (X : K.In h) (G : h.Ns mainGlobals mg) (hfa : mg "law" = some (.ref fa)) (tabs : ∀ (y : Str) (f : Addr), ((recsOf q).any fun e => e.name == y) = true → mg y = some (.ref f) → LamX.OwnTab K f h)
    (hl : l.prog = PySem.Challenge.pw_museum_k14_loans_and_light) (hq : ∀ y ∈ [("check_loans" : Str), ("most_away" : Str), ("best_loans" : Str), ("_law_light" : Str), ("law" : Str)], ((recsOf q).any fun e => e.name == y) = true)
    {f0 c0 : Addr} {oc0 kV0 dc0 pm0 ct0 : Value} {od0 an0 : Option Addr} {sl0 : Array (Option Value)}
    {p0 : Addr} {te0 : Value} {td0 : Option Addr} {tv0 : Array Value} {ts0 : Array (Option Value)}
    {f1 c1 : Addr} {oc1 kV1 dc1 pm1 ct1 : Value} {od1 an1 : Option Addr} {sl1 : Array (Option Value)}
    {f2 c2 : Addr} {oc2 kV2 dc2 pm2 ct2 : Value} {od2 an2 : Option Addr} {sl2 : Array (Option Value)}
    {f3 c3 : Addr} {oc3 kV3 dc3 pm3 ct3 : Value} {od3 an3 : Option Addr} {sl3 : Array (Option Value)}
    {f4 c4 : Addr} {oc4 kV4 dc4 pm4 ct4 : Value} {od4 an4 : Option Addr} {sl4 : Array (Option Value)}
    {p4 : Addr} {te4 : Value} {td4 : Option Addr} {tv4 : Array Value} {ts4 : Array (Option Value)}
    {f5 c5 : Addr} {oc5 kV5 dc5 pm5 ct5 : Value} {od5 an5 : Option Addr} {sl5 : Array (Option Value)}
    {p5 : Addr} {te5 : Value} {td5 : Option Addr} {tv5 : Array Value} {ts5 : Array (Option Value)}
    {f6 c6 : Addr} {oc6 kV6 dc6 pm6 ct6 : Value} {od6 an6 : Option Addr} {sl6 : Array (Option Value)}
    {f7 c7 : Addr} {oc7 kV7 dc7 pm7 ct7 : Value} {od7 an7 : Option Addr} {sl7 : Array (Option Value)}
    {f8 c8 : Addr} {oc8 kV8 dc8 pm8 ct8 : Value} {od8 an8 : Option Addr} {sl8 : Array (Option Value)}
    {f9 c9 : Addr} {oc9 kV9 dc9 pm9 ct9 : Value} {od9 an9 : Option Addr} {sl9 : Array (Option Value)}
    {f10 c10 : Addr} {oc10 kV10 dc10 pm10 ct10 : Value} {od10 an10 : Option Addr} {sl10 : Array (Option Value)}
    {f11 c11 : Addr} {oc11 kV11 dc11 pm11 ct11 : Value} {od11 an11 : Option Addr} {sl11 : Array (Option Value)}
    {f12 c12 : Addr} {oc12 kV12 dc12 pm12 ct12 : Value} {od12 an12 : Option Addr} {sl12 : Array (Option Value)}
    {f13 c13 : Addr} {oc13 kV13 dc13 pm13 ct13 : Value} {od13 an13 : Option Addr} {sl13 : Array (Option Value)}
    {p13 : Addr} {te13 : Value} {td13 : Option Addr} {tv13 : Array Value} {ts13 : Array (Option Value)}
    {f14 c14 : Addr} {oc14 kV14 dc14 pm14 ct14 : Value} {od14 an14 : Option Addr} {sl14 : Array (Option Value)}
    {p14 : Addr} {te14 : Value} {td14 : Option Addr} {tv14 : Array Value} {ts14 : Array (Option Value)}
    {x0 : Addr}
    {x1 : Addr}
    {x2 : Addr}
    {x3 : Addr}
    (a0 : PySem.W.nsIn K mainGlobals "check_loans" = some (some (.ref f0)))
    (l0 : K.lookup f0 = some ⟨oc0, od0, .func (PySem.W.fnOf "check_loans" "check_loans" (defArgs s_check_loans) (defBody s_check_loans) (defScope s_check_loans) .none kV0 dc0 pm0 an0 (.ref c0) ct0), sl0⟩)
    (h0 : PySem.W.codeIn K (.ref c0) "check_loans" = true)
    (k0 : PySem.W.keepIn K (.ref f0) = true)
    (t0 : K.lookup c0 = some ⟨te0, td0, .fields tv0, ts0⟩)
    (u0 : tv0[11]? = some (.ref p0))
    (v0 : PySem.W.codeHdIn K c0 p0 = true)
    (w0 : K.lookup p0 = none)
    (a1 : PySem.W.nsIn K mainGlobals "clash" = some (some (.ref f1)))
    (l1 : K.lookup f1 = some ⟨oc1, od1, .func (PySem.W.fnOf "clash" "clash" (defArgs s_clash) (defBody s_clash) (defScope s_clash) .none kV1 dc1 pm1 an1 (.ref c1) ct1), sl1⟩)
    (h1 : PySem.W.codeIn K (.ref c1) "clash" = true)
    (k1 : PySem.W.keepIn K (.ref f1) = true)
    (a2 : PySem.W.nsIn K mainGlobals "clashes" = some (some (.ref f2)))
    (l2 : K.lookup f2 = some ⟨oc2, od2, .func (PySem.W.fnOf "clashes" "clashes" (defArgs s_clashes) (defBody s_clashes) (defScope s_clashes) .none kV2 dc2 pm2 an2 (.ref c2) ct2), sl2⟩)
    (h2 : PySem.W.codeIn K (.ref c2) "clashes" = true)
    (k2 : PySem.W.keepIn K (.ref f2) = true)
    (a3 : PySem.W.nsIn K mainGlobals "away" = some (some (.ref f3)))
    (l3 : K.lookup f3 = some ⟨oc3, od3, .func (PySem.W.fnOf "away" "away" (defArgs s_away) (defBody s_away) (defScope s_away) .none kV3 dc3 pm3 an3 (.ref c3) ct3), sl3⟩)
    (h3 : PySem.W.codeIn K (.ref c3) "away" = true)
    (k3 : PySem.W.keepIn K (.ref f3) = true)
    (a4 : PySem.W.nsIn K mainGlobals "most_away" = some (some (.ref f4)))
    (l4 : K.lookup f4 = some ⟨oc4, od4, .func (PySem.W.fnOf "most_away" "most_away" (defArgs s_most_away) (defBody s_most_away) (defScope s_most_away) .none kV4 dc4 pm4 an4 (.ref c4) ct4), sl4⟩)
    (h4 : PySem.W.codeIn K (.ref c4) "most_away" = true)
    (k4 : PySem.W.keepIn K (.ref f4) = true)
    (t4 : K.lookup c4 = some ⟨te4, td4, .fields tv4, ts4⟩)
    (u4 : tv4[11]? = some (.ref p4))
    (v4 : PySem.W.codeHdIn K c4 p4 = true)
    (w4 : K.lookup p4 = none)
    (a5 : PySem.W.nsIn K mainGlobals "best_loans" = some (some (.ref f5)))
    (l5 : K.lookup f5 = some ⟨oc5, od5, .func (PySem.W.fnOf "best_loans" "best_loans" (defArgs s_best_loans) (defBody s_best_loans) (defScope s_best_loans) .none kV5 dc5 pm5 an5 (.ref c5) ct5), sl5⟩)
    (h5 : PySem.W.codeIn K (.ref c5) "best_loans" = true)
    (k5 : PySem.W.keepIn K (.ref f5) = true)
    (t5 : K.lookup c5 = some ⟨te5, td5, .fields tv5, ts5⟩)
    (u5 : tv5[11]? = some (.ref p5))
    (v5 : PySem.W.codeHdIn K c5 p5 = true)
    (w5 : K.lookup p5 = none)
    (a6 : PySem.W.nsIn K mainGlobals "borne" = some (some (.ref f6)))
    (l6 : K.lookup f6 = some ⟨oc6, od6, .func (PySem.W.fnOf "borne" "borne" (defArgs s_borne) (defBody s_borne) (defScope s_borne) .none kV6 dc6 pm6 an6 (.ref c6) ct6), sl6⟩)
    (h6 : PySem.W.codeIn K (.ref c6) "borne" = true)
    (k6 : PySem.W.keepIn K (.ref f6) = true)
    (a7 : PySem.W.nsIn K mainGlobals "days_left" = some (some (.ref f7)))
    (l7 : K.lookup f7 = some ⟨oc7, od7, .func (PySem.W.fnOf "days_left" "days_left" (defArgs s_days_left) (defBody s_days_left) (defScope s_days_left) .none kV7 dc7 pm7 an7 (.ref c7) ct7), sl7⟩)
    (h7 : PySem.W.codeIn K (.ref c7) "days_left" = true)
    (k7 : PySem.W.keepIn K (.ref f7) = true)
    (a8 : PySem.W.nsIn K mainGlobals "by_turns" = some (some (.ref f8)))
    (l8 : K.lookup f8 = some ⟨oc8, od8, .func (PySem.W.fnOf "by_turns" "by_turns" (defArgs s_by_turns) (defBody s_by_turns) (defScope s_by_turns) .none kV8 dc8 pm8 an8 (.ref c8) ct8), sl8⟩)
    (h8 : PySem.W.codeIn K (.ref c8) "by_turns" = true)
    (k8 : PySem.W.keepIn K (.ref f8) = true)
    (a9 : PySem.W.nsIn K mainGlobals "_law_dice" = some (some (.ref f9)))
    (l9 : K.lookup f9 = some ⟨oc9, od9, .func (PySem.W.fnOf "_law_dice" "_law_dice" (defArgs s__law_dice) (defBody s__law_dice) (defScope s__law_dice) .none kV9 dc9 pm9 an9 (.ref c9) ct9), sl9⟩)
    (h9 : PySem.W.codeIn K (.ref c9) "_law_dice" = true)
    (k9 : PySem.W.keepIn K (.ref f9) = true)
    (a10 : PySem.W.nsIn K mainGlobals "_law_roll" = some (some (.ref f10)))
    (l10 : K.lookup f10 = some ⟨oc10, od10, .func (PySem.W.fnOf "_law_roll" "_law_roll" (defArgs s__law_roll) (defBody s__law_roll) (defScope s__law_roll) .none kV10 dc10 pm10 an10 (.ref c10) ct10), sl10⟩)
    (h10 : PySem.W.codeIn K (.ref c10) "_law_roll" = true)
    (k10 : PySem.W.keepIn K (.ref f10) = true)
    (a11 : PySem.W.nsIn K mainGlobals "_law_rounds" = some (some (.ref f11)))
    (l11 : K.lookup f11 = some ⟨oc11, od11, .func (PySem.W.fnOf "_law_rounds" "_law_rounds" (defArgs s__law_rounds) (defBody s__law_rounds) (defScope s__law_rounds) .none kV11 dc11 pm11 an11 (.ref c11) ct11), sl11⟩)
    (h11 : PySem.W.codeIn K (.ref c11) "_law_rounds" = true)
    (k11 : PySem.W.keepIn K (.ref f11) = true)
    (a12 : PySem.W.nsIn K mainGlobals "_law_told" = some (some (.ref f12)))
    (l12 : K.lookup f12 = some ⟨oc12, od12, .func (PySem.W.fnOf "_law_told" "_law_told" (defArgs s__law_told) (defBody s__law_told) (defScope s__law_told) .none kV12 dc12 pm12 an12 (.ref c12) ct12), sl12⟩)
    (h12 : PySem.W.codeIn K (.ref c12) "_law_told" = true)
    (k12 : PySem.W.keepIn K (.ref f12) = true)
    (a13 : PySem.W.nsIn K mainGlobals "_law_light" = some (some (.ref f13)))
    (l13 : K.lookup f13 = some ⟨oc13, od13, .func (PySem.W.fnOf "_law_light" "_law_light" (defArgs s__law_light) (defBody s__law_light) (defScope s__law_light) .none kV13 dc13 pm13 an13 (.ref c13) ct13), sl13⟩)
    (h13 : PySem.W.codeIn K (.ref c13) "_law_light" = true)
    (k13 : PySem.W.keepIn K (.ref f13) = true)
    (t13 : K.lookup c13 = some ⟨te13, td13, .fields tv13, ts13⟩)
    (u13 : tv13[11]? = some (.ref p13))
    (v13 : PySem.W.codeHdIn K c13 p13 = true)
    (w13 : K.lookup p13 = none)
    (a14 : PySem.W.nsIn K mainGlobals "law" = some (some (.ref f14)))
    (l14 : K.lookup f14 = some ⟨oc14, od14, .func (PySem.W.fnOf "law" "law" (defArgs s_law) (defBody s_law) (defScope s_law) .none kV14 dc14 pm14 an14 (.ref c14) ct14), sl14⟩)
    (h14 : PySem.W.codeIn K (.ref c14) "law" = true)
    (k14 : PySem.W.keepIn K (.ref f14) = true)
    (t14 : K.lookup c14 = some ⟨te14, td14, .fields tv14, ts14⟩)
    (u14 : tv14[11]? = some (.ref p14))
    (v14 : PySem.W.codeHdIn K c14 p14 = true)
    (w14 : K.lookup p14 = none)
    (n0 : PySem.W.nsIn K mainGlobals "NoWay" = some (some (.ref x0)))
    (o0 : PySem.W.excIn K x0 [.type "ValueError", .type "Exception", .type "BaseException", .type "object"] "ValueError.__new__" = true)
    (q0 : PySem.W.keepIn K (.ref x0) = true)
    (r0 : PySem.W.subIn K (.ref x0) (.type "BaseException") = some true)
    (y0 : PySem.W.typeIn K (.ref x0) = some (.type "type"))
    (n1 : PySem.W.nsIn K mainGlobals "BadPlan" = some (some (.ref x1)))
    (o1 : PySem.W.excIn K x1 [.type "ValueError", .type "Exception", .type "BaseException", .type "object"] "ValueError.__new__" = true)
    (q1 : PySem.W.keepIn K (.ref x1) = true)
    (r1 : PySem.W.subIn K (.ref x1) (.type "BaseException") = some true)
    (y1 : PySem.W.typeIn K (.ref x1) = some (.type "type"))
    (n2 : PySem.W.nsIn K mainGlobals "BadPaper" = some (some (.ref x2)))
    (q2 : PySem.W.keepIn K (.ref x2) = true)
    (r2 : PySem.W.subIn K (.ref x2) (.type "BaseException") = some true)
    (y2 : PySem.W.typeIn K (.ref x2) = some (.type "type"))
    (n3 : PySem.W.nsIn K mainGlobals "TooLarge" = some (some (.ref x3)))
    (o3 : PySem.W.excIn K x3 [.type "ValueError", .type "Exception", .type "BaseException", .type "object"] "ValueError.__new__" = true)
    (q3 : PySem.W.keepIn K (.ref x3) = true)
    (r3 : PySem.W.subIn K (.ref x3) (.type "BaseException") = some true)
    (y3 : PySem.W.typeIn K (.ref x3) = some (.type "type"))
    (z_abs : PySem.W.nsIn K mainGlobals "abs" = some none)
    (z_any : PySem.W.nsIn K mainGlobals "any" = some none)
    (z_dict : PySem.W.nsIn K mainGlobals "dict" = some none)
    (z_enumerate : PySem.W.nsIn K mainGlobals "enumerate" = some none)
    (z_int : PySem.W.nsIn K mainGlobals "int" = some none)
    (z_len : PySem.W.nsIn K mainGlobals "len" = some none)
    (z_list : PySem.W.nsIn K mainGlobals "list" = some none)
    (z_max : PySem.W.nsIn K mainGlobals "max" = some none)
    (z_min : PySem.W.nsIn K mainGlobals "min" = some none)
    (z_range : PySem.W.nsIn K mainGlobals "range" = some none)
    (z_sorted : PySem.W.nsIn K mainGlobals "sorted" = some none)
    (z_sum : PySem.W.nsIn K mainGlobals "sum" = some none)
    (z_tuple : PySem.W.nsIn K mainGlobals "tuple" = some none)
    (e00 : PySem.W.exmOne K (.ref x0) (.ref x0) = some true)
    (e01 : PySem.W.exmOne K (.ref x0) (.ref x1) = some false)
    (e02 : PySem.W.exmOne K (.ref x0) (.ref x2) = some false)
    (e10 : PySem.W.exmOne K (.ref x1) (.ref x0) = some false)
    (e11 : PySem.W.exmOne K (.ref x1) (.ref x1) = some true)
    (e12 : PySem.W.exmOne K (.ref x1) (.ref x2) = some false)
    (e20 : PySem.W.exmOne K (.ref x2) (.ref x0) = some false)
    (e21 : PySem.W.exmOne K (.ref x2) (.ref x1) = some false)
    (e22 : PySem.W.exmOne K (.ref x2) (.ref x2) = some true)
    (ne : x0 ≠ x1 ∧ x0 ≠ x2 ∧ x1 ≠ x2)
    (off : ∀ p ∈ [p0, p4, p5], p13 ≠ p ∧ p14 ≠ p)
    (offl : [p13, p14].Nodup)
    : LamX.LawAtS l w K (L2.CX l.prog w) 41 63 "script" mg fa h :=
  law_at (a := { f_check_loans := f0, c_check_loans := c0, d_check_loans := PySem.W.fnOf "check_loans" "check_loans" (defArgs s_check_loans) (defBody s_check_loans) (defScope s_check_loans) .none kV0 dc0 pm0 an0 (.ref c0) ct0, p_check_loans := p0, f_clash := f1, c_clash := c1, d_clash := PySem.W.fnOf "clash" "clash" (defArgs s_clash) (defBody s_clash) (defScope s_clash) .none kV1 dc1 pm1 an1 (.ref c1) ct1, f_clashes := f2, c_clashes := c2, d_clashes := PySem.W.fnOf "clashes" "clashes" (defArgs s_clashes) (defBody s_clashes) (defScope s_clashes) .none kV2 dc2 pm2 an2 (.ref c2) ct2, f_away := f3, c_away := c3, d_away := PySem.W.fnOf "away" "away" (defArgs s_away) (defBody s_away) (defScope s_away) .none kV3 dc3 pm3 an3 (.ref c3) ct3, f_most_away := f4, c_most_away := c4, d_most_away := PySem.W.fnOf "most_away" "most_away" (defArgs s_most_away) (defBody s_most_away) (defScope s_most_away) .none kV4 dc4 pm4 an4 (.ref c4) ct4, p_most_away := p4, f_best_loans := f5, c_best_loans := c5, d_best_loans := PySem.W.fnOf "best_loans" "best_loans" (defArgs s_best_loans) (defBody s_best_loans) (defScope s_best_loans) .none kV5 dc5 pm5 an5 (.ref c5) ct5, p_best_loans := p5, f_borne := f6, c_borne := c6, d_borne := PySem.W.fnOf "borne" "borne" (defArgs s_borne) (defBody s_borne) (defScope s_borne) .none kV6 dc6 pm6 an6 (.ref c6) ct6, f_days_left := f7, c_days_left := c7, d_days_left := PySem.W.fnOf "days_left" "days_left" (defArgs s_days_left) (defBody s_days_left) (defScope s_days_left) .none kV7 dc7 pm7 an7 (.ref c7) ct7, f_by_turns := f8, c_by_turns := c8, d_by_turns := PySem.W.fnOf "by_turns" "by_turns" (defArgs s_by_turns) (defBody s_by_turns) (defScope s_by_turns) .none kV8 dc8 pm8 an8 (.ref c8) ct8, f__law_dice := f9, c__law_dice := c9, d__law_dice := PySem.W.fnOf "_law_dice" "_law_dice" (defArgs s__law_dice) (defBody s__law_dice) (defScope s__law_dice) .none kV9 dc9 pm9 an9 (.ref c9) ct9, f__law_roll := f10, c__law_roll := c10, d__law_roll := PySem.W.fnOf "_law_roll" "_law_roll" (defArgs s__law_roll) (defBody s__law_roll) (defScope s__law_roll) .none kV10 dc10 pm10 an10 (.ref c10) ct10, f__law_rounds := f11, c__law_rounds := c11, d__law_rounds := PySem.W.fnOf "_law_rounds" "_law_rounds" (defArgs s__law_rounds) (defBody s__law_rounds) (defScope s__law_rounds) .none kV11 dc11 pm11 an11 (.ref c11) ct11, f__law_told := f12, c__law_told := c12, d__law_told := PySem.W.fnOf "_law_told" "_law_told" (defArgs s__law_told) (defBody s__law_told) (defScope s__law_told) .none kV12 dc12 pm12 an12 (.ref c12) ct12, f__law_light := f13, c__law_light := c13, d__law_light := PySem.W.fnOf "_law_light" "_law_light" (defArgs s__law_light) (defBody s__law_light) (defScope s__law_light) .none kV13 dc13 pm13 an13 (.ref c13) ct13, p__law_light := p13, f_law := f14, c_law := c14, d_law := PySem.W.fnOf "law" "law" (defArgs s_law) (defBody s_law) (defScope s_law) .none kV14 dc14 pm14 an14 (.ref c14) ct14, p_law := p14, x_NoWay := x0, x_BadPlan := x1, x_BadPaper := x2, x_TooLarge := x3 }) { d_check_loans := def_mk a0 l0 h0 k0, t_check_loans := tab_mk t0 u0 v0 w0, d_clash := def_mk a1 l1 h1 k1, d_clashes := def_mk a2 l2 h2 k2, d_away := def_mk a3 l3 h3 k3, d_most_away := def_mk a4 l4 h4 k4, t_most_away := tab_mk t4 u4 v4 w4, d_best_loans := def_mk a5 l5 h5 k5, t_best_loans := tab_mk t5 u5 v5 w5, d_borne := def_mk a6 l6 h6 k6, d_days_left := def_mk a7 l7 h7 k7, d_by_turns := def_mk a8 l8 h8 k8, d__law_dice := def_mk a9 l9 h9 k9, d__law_roll := def_mk a10 l10 h10 k10, d__law_rounds := def_mk a11 l11 h11 k11, d__law_told := def_mk a12 l12 h12 k12, d__law_light := def_mk a13 l13 h13 k13, t__law_light := tab_mk t13 u13 v13 w13, d_law := def_mk a14 l14 h14 k14, t_law := tab_mk t14 u14 v14 w14, x_NoWay := ⟨n0, q0, r0, y0⟩, xe_NoWay := o0, x_BadPlan := ⟨n1, q1, r1, y1⟩, xe_BadPlan := o1, x_BadPaper := ⟨n2, q2, r2, y2⟩, x_TooLarge := ⟨n3, q3, r3, y3⟩, xe_TooLarge := o3, m_abs := z_abs, m_any := z_any, m_dict := z_dict, m_enumerate := z_enumerate, m_int := z_int, m_len := z_len, m_list := z_list, m_max := z_max, m_min := z_min, m_range := z_range, m_sorted := z_sorted, m_sum := z_sum, m_tuple := z_tuple, apart := apart3 ne.1 ne.2.1 ne.2.2 e00 e01 e02 e10 e11 e12 e20 e21 e22, off := off, offl := offl } X G hl hfa tabs hq (pure_law _ ne)
end M14
open PySem PySem.W PyProof.Rows
set_option maxHeartbeats 0 in
theorem PySem.Challenge.cw_museum_k14_loans_and_light_holds : PySem.Challenge.rw_museum_k14_loans_and_light.Holds := by
  w_on; o_law; k_head; (case hw => w_witness2)
  k_fill
  refine PL.walk_all (l := PySem.Challenge.rw_museum_k14_loans_and_light) (n := 63) (k := 41) (x := "script") (CX := fun w => L2.CX PySem.Challenge.rw_museum_k14_loans_and_light.prog w) rfl (by decide) rfl ⟨rfl, by decide, by decide⟩ (fun w h Y => PySem.W.km_in_of Y) ?F ?C
  case F =>
    intro w mg fa h Y KX G hmg tabs
    refine' M14.fin KX G hmg tabs rfl ?hq ?a0 ?l0 ?h0 ?k0 ?t0 ?u0 ?v0 ?w0 ?a1 ?l1 ?h1 ?k1 ?a2 ?l2 ?h2 ?k2 ?a3 ?l3 ?h3 ?k3 ?a4 ?l4 ?h4 ?k4 ?t4 ?u4 ?v4 ?w4 ?a5 ?l5 ?h5 ?k5 ?t5 ?u5 ?v5 ?w5 ?a6 ?l6 ?h6 ?k6 ?a7 ?l7 ?h7 ?k7 ?a8 ?l8 ?h8 ?k8 ?a9 ?l9 ?h9 ?k9 ?a10 ?l10 ?h10 ?k10 ?a11 ?l11 ?h11 ?k11 ?a12 ?l12 ?h12 ?k12 ?a13 ?l13 ?h13 ?k13 ?t13 ?u13 ?v13 ?w13 ?a14 ?l14 ?h14 ?k14 ?t14 ?u14 ?v14 ?w14 ?n0 ?o0 ?q0 ?r0 ?y0 ?n1 ?o1 ?q1 ?r1 ?y1 ?n2 ?q2 ?r2 ?y2 ?n3 ?o3 ?q3 ?r3 ?y3 ?z_abs ?z_any ?z_dict ?z_enumerate ?z_int ?z_len ?z_list ?z_max ?z_min ?z_range ?z_sorted ?z_sum ?z_tuple ?e00 ?e01 ?e02 ?e10 ?e11 ?e12 ?e20 ?e21 ?e22 ?ne ?off ?offl
    case hq => decide +kernel
    case a0 => k_is
    case l0 => k_is
    case h0 => k_is
    case k0 => k_is
    case t0 => k_is
    case u0 => (first | rfl | k_is)
    case v0 => kernel_rfl
    case w0 => kernel_rfl
    case a1 => k_is
    case l1 => k_is
    case h1 => k_is
    case k1 => k_is
    case a2 => k_is
    case l2 => k_is
    case h2 => k_is
    case k2 => k_is
    case a3 => k_is
    case l3 => k_is
    case h3 => k_is
    case k3 => k_is
    case a4 => k_is
    case l4 => k_is
    case h4 => k_is
    case k4 => k_is
    case t4 => k_is
    case u4 => (first | rfl | k_is)
    case v4 => kernel_rfl
    case w4 => kernel_rfl
    case a5 => k_is
    case l5 => k_is
    case h5 => k_is
    case k5 => k_is
    case t5 => k_is
    case u5 => (first | rfl | k_is)
    case v5 => kernel_rfl
    case w5 => kernel_rfl
    case a6 => k_is
    case l6 => k_is
    case h6 => k_is
    case k6 => k_is
    case a7 => k_is
    case l7 => k_is
    case h7 => k_is
    case k7 => k_is
    case a8 => k_is
    case l8 => k_is
    case h8 => k_is
    case k8 => k_is
    case a9 => k_is
    case l9 => k_is
    case h9 => k_is
    case k9 => k_is
    case a10 => k_is
    case l10 => k_is
    case h10 => k_is
    case k10 => k_is
    case a11 => k_is
    case l11 => k_is
    case h11 => k_is
    case k11 => k_is
    case a12 => k_is
    case l12 => k_is
    case h12 => k_is
    case k12 => k_is
    case a13 => k_is
    case l13 => k_is
    case h13 => k_is
    case k13 => k_is
    case t13 => k_is
    case u13 => (first | rfl | k_is)
    case v13 => kernel_rfl
    case w13 => kernel_rfl
    case a14 => k_is
    case l14 => k_is
    case h14 => k_is
    case k14 => k_is
    case t14 => k_is
    case u14 => (first | rfl | k_is)
    case v14 => kernel_rfl
    case w14 => kernel_rfl
    case n0 => k_is
    case o0 => kernel_rfl
    case q0 => k_is
    case r0 => k_is
    case y0 => k_is
    case n1 => k_is
    case o1 => kernel_rfl
    case q1 => k_is
    case r1 => k_is
    case y1 => k_is
    case n2 => k_is
    case q2 => k_is
    case r2 => k_is
    case y2 => k_is
    case n3 => k_is
    case o3 => kernel_rfl
    case q3 => k_is
    case r3 => k_is
    case y3 => k_is
    case z_abs => k_is
    case z_any => k_is
    case z_dict => k_is
    case z_enumerate => k_is
    case z_int => k_is
    case z_len => k_is
    case z_list => k_is
    case z_max => k_is
    case z_min => k_is
    case z_range => k_is
    case z_sorted => k_is
    case z_sum => k_is
    case z_tuple => k_is
    case e00 => kernel_rfl
    case e01 => kernel_rfl
    case e02 => kernel_rfl
    case e10 => kernel_rfl
    case e11 => kernel_rfl
    case e12 => kernel_rfl
    case e20 => kernel_rfl
    case e21 => kernel_rfl
    case e22 => kernel_rfl
    case ne => decide
    case off => decide
    case offl => decide
  case C =>
    intro w H s e s' z
    obtain ⟨_, _, _, _, _, _, _, _, _, _, _, _, z⟩ := z
    exact z
